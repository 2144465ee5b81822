import Derived.WideKeyEntry
import Derived.DeepKeys4
import Derived.Maps.RangeRun
import Derived.Test.YtaglpcmhopjebaaGreatDoorQ28
set_option linter.all false
set_option maxRecDepth 100000
set_option maxHeartbeats 20000000
namespace Go.Proofs
open Go.Tm Go.RowKit Go.MapKept
def en(p:Bool×Int):Value:=.agg #[.bool p.1,.int .i64 p.2]
def Es{p q}(h:en p=en q):p=q:=by unfold en at h;cases p;cases q;simp at h;simp[h.1,h.2]
section
variable (fs:Array Func)
def Pz:(Qs fs).keyTypeAt 2 293=true:=by kernel_rfl
def MC:(Qs fs).tiled 2 293=true:=by kernel_rfl
def GN:(Qs fs).keyType 293=true:=by kernel_rfl
def MD:∃F,(Qs fs).underlying 293=some (.struct F):=⟨_,(aI _ _ _).trans Tryz.underlying293⟩
def tw:WideMaps.KeyLaw (Qs fs) 293:=by refine deep_law (m:=2) (by omega) (Pz fs) (MC fs) ?_;obtain⟨F,h⟩:=MD fs;rw[h]
def Et:(Qs fs).cellsOf 293=2:=by kernel_rfl
def PC:(Qs fs).cellsOf 4=1:=by kernel_rfl
def PD:(Qs fs).cellsOf 3=1:=by kernel_rfl
def PE:293<(Qs fs).types.size:=SO (by kernel_rfl)
def Oq(b n)(h:(Lit.int .i64 n).wf=true)(d):(Qs fs).keyLits (d+2) 293 [.bool b,.int .i64 n]=some [.bool b,.int .i64 n]:=by have e:(Qs fs).underlying 4=some .bool:=(aI _ _ _).trans Tryz.underlying4;have f:(Qs fs).underlying 3=some (.int .i64):=(aI _ _ _).trans Tryz.underlying3;obtain⟨S,c⟩:=ex (Tryz.prog.underlying 293);have a:(Qs fs).underlying 293=S:=(aI _ _ _).trans c.symm;rw[Tryz.underlying293]at c;subst c;simp[Program.keyLits,a,e,f,Et,PC,PD,h]
def rO(p)(h:(Lit.int .i64 p.2).wf=true):∃l,keyOf (Qs fs) 293 (en p)=some l:=by
 obtain⟨F,a⟩:=MD fs;obtain⟨d,b⟩:∃d,(Qs fs).types.size+1=d+2:=⟨(Qs fs).types.size-1,by have:=PE fs;omega⟩
 have c:=Oq fs p.1 p.2 h d;have e:(en p).formed (Qs fs) 293=true:=by simp[en,Value.formed,a,Et]
 have f:(en p).cells.toList=[.bool p.1,.int .i64 p.2]:=rfl;unfold keyOf;rw[a];simp only[GN,e,Bool.and_self,Sj,b,f,c,SQ];exact⟨_,rfl⟩
def tx:(Qs fs).underlying 291=some (.map 293 3):=by kernel_rfl
def OR(w):(zeroValue 3).run (Qs fs) w=.ok (.int .i64 0) w:=by
 rw[jb];have h:((Tryz.prog.info? 3).bind (·.zero))=some (.int .i64 0):=by kernel_rfl
 cases a:Tryz.prog.info? 3 with
 |none=>rw[a]at h;cases h
 |some i=>rw[a]at h;simp only[Ua]at h;simp[zeroValue,typeInfo,a,h]
end
def wfE(p:Bool×Int):Prop:=(Lit.int .i64 p.2).wf=true
structure Cnt(es:List MapEntry)(clock:Nat)(f:Bool×Int->Nat):Prop where
 ent:∀e∈es,∃p,wfE p/\e.key=en p/\e.val=.int .i64 (f p)/\e.born<clock
 born:(es.map (·.born)).Nodup
 keys:es.Pairwise λx y=>x.key≠y.key
 all:∀p,f p≠0->∃e∈es,e.key=en p
def eO(w:World)(b:Nat)(f:Bool×Int->Nat):Prop:=∃es a,w.heap[b]? =some (.map es a)/\Cnt es.toList a f
def eO.new(w:World):eO (w.alloc (.map #[] 0)) w.heap.size (λ_=>0):=⟨#[],0,SY,⟨λe a=>(by cases a),List.nodup_nil,List.Pairwise.nil,λp b=>absurd rfl b⟩⟩
def eO.keep{w w' b f}(h:eO w b f)(c:w'.heap[b]? =w.heap[b]?):eO w' b f:=by obtain⟨es,a,d,e⟩:=h;exact⟨es,a,c.trans d,e⟩
def eO.lt{w b f}(h:eO w b f):b<w.heap.size:=by obtain⟨es,a,c,_⟩:=h;exact(R7.1 c).1
section
variable (fs:Array Func)
def Cnt.find{es a f}(h:Cnt es a f)(p)(i:wfE p)(w):
 ((Instr.findKey 293 (en p) es).run (Qs fs) w=.ok none w/\(∀e∈es,e.key≠en p)/\f p=0)\/∃j e,(Instr.findKey 293 (en p) es).run (Qs fs) w=.ok (some (j,.int .i64 (f p))) w/\es[j]? =some e/\e.key=en p/\e.val=.int .i64 (f p):=by
 obtain⟨l,k⟩:=rO fs p i;rcases(tw fs).find w k es (λe c=>by obtain⟨q,d,b,_⟩:=h.ent e c;rw[b];exact rO fs q d)with⟨h1,h2⟩|⟨j,e,h1,h2,h3⟩
 ·refine .inl ⟨h1,h2,UQ λm=>?_⟩
  obtain⟨e,c,b⟩:=h.all p m;exact h2 e c b
 ·obtain⟨q,d,b,g,_⟩:=h.ent e (Ts h2)
  have:=Es (b.symm.trans h3);subst this;exact .inr ⟨j,e,by rw[h1,g],h2,h3,g⟩
def rP{w b f}(h:eO w b f)(p)(g:wfE p):(Instr.lookup 291 (.map (some b)) (en p) false).run (Qs fs) w=.ok (.int .i64 (f p)) w:=by
 obtain⟨es,c,i,k⟩:=h;obtain⟨l,m⟩:=rO fs p g;have a:=λn=>(tw fs).check w n m;obtain⟨d,_,o⟩|⟨j,e,d,_⟩:=k.find fs p g w
 ·rw[o]
  simp[Instr.lookup,run_underlying (tx fs),MapKept.run_getObj_map (P:=Qs fs) i,a,d,Result.andThen,OR]
 ·simp[Instr.lookup,run_underlying (tx fs),MapKept.run_getObj_map (P:=Qs fs) i,a,d,Result.andThen]
def dD(w:World)(b:Nat)(es:Array MapEntry)(a:Nat):World:={w with heap:=w.heap.setIfInBounds b (.map es a)}
def cT{w b es d g a}(i:w.heap[b]? =some (.map es g)):
 (dD w b d a).heap[b]? =some (.map d a)/\(∀k,k≠b->(dD w b d a).heap[k]? =w.heap[k]?)/\(∀B,B<=b->Below B w (dD w b d a))/\ae w (dD w b d a)/\(dD w b d a).heap.size=w.heap.size:=by
 refine⟨(heap_set i).1,λk h=>(heap_set i).2 k h,λB l=>⟨rfl,rfl,rfl,by simp[dD],λk h=>(heap_set i).2 k (by omega)⟩,λk c e f h=>?_,by simp[dD]⟩;have j:k≠b:=by rintro rfl;rw[i]at h;cases h
 exact((heap_set i).2 k j).trans h
def ik(w:World)(b:Nat)(p:Bool×Int)(st:Nat):Prop:=∃es a,w.heap[b]? =some (.map es a)/\∃(j:Nat) (e:MapEntry),es.toList[j]? =some e/\e.key=en p/\e.born=st
def J3{w b f}(h:eO w b f)(p)(r:wfE p):
 ∃es d,∃st:Nat,(Instr.mapEntry 291 (.map (some b)) (en p)).run (Qs fs) w=.ok (.tuple #[.int .i64 (f p),.int .i64 st]) (dD w b es d)/\eO (dD w b es d) b f/\ik (dD w b es d) b p st:=by
 obtain⟨es,d,g,i⟩:=h;obtain⟨l,z⟩:=rO fs p r;have m:=λB=>(tw fs).check w B z;have s:=(tw fs).stays w z;obtain⟨t,u,A⟩|⟨j,e,t,o,n,L⟩:=i.find fs p r w
 ·refine⟨es.push ⟨en p,.int .i64 0,d⟩,d+1,d,?_,⟨_,_,(cT g).1,?_⟩,⟨_,_,(cT g).1,es.size,⟨en p,.int .i64 0,d⟩,by simp,rfl,rfl⟩⟩
  ·rw[A]
   simp[Instr.mapEntry,run_underlying (tx fs),MapKept.run_getObj_map (P:=Qs fs) g,m,t,Result.andThen,OR,MapKept.run_setObj_map (P:=Qs fs) _ g,dD,goInt]
  ·rw[Vr]
   refine⟨λx hx=>?_,?_,?_,λq C=>?_⟩
   ·obtain hx|hx:=TS.1 hx
    ·obtain⟨q,D,E,F,G⟩:=i.ent x hx
     exact⟨q,D,E,F,by omega⟩
    ·cases TW.1 hx
     exact⟨p,r,rfl,by rw[A];rfl,by simp⟩
   ·rw[T7]
    refine List.nodup_append.2 ⟨i.born,by simp,λa H c I e=>?_⟩;obtain⟨x,hx,rfl⟩:=TG.1 H;obtain⟨_,_,_,_,G⟩:=i.ent x hx;simp at I;omega
   ·refine List.pairwise_append.2 ⟨i.keys,List.pairwise_singleton _ _,λx hx y J=>?_⟩
    cases TW.1 J;exact u x hx
   ·obtain⟨e,K,n⟩:=i.all q C
    exact⟨e,UC _ K,n⟩
 ·have v:es[j]? =some e:=by simpa using o
  have k:es.modify j (λe=>{e with key:=en p})=es:=by
   apply UI;rw[Va,ChangeMaps.modify_eq_set _ _ _ _ o];have:({e with key:=en p}:MapEntry)=e:=by rw[<-n]
   rw[this];exact WideElems.set_self _ _ _ o
  refine⟨es,d,e.born,?_,⟨_,_,(cT g).1,i⟩,⟨_,_,(cT g).1,j,e,o,n,rfl⟩⟩;simp[Instr.mapEntry,run_underlying (tx fs),MapKept.run_getObj_map (P:=Qs fs) g,m,t,v,n,s,k,Result.andThen,MapKept.run_setObj_map (P:=Qs fs) _ g,dD,goInt]
def kb(e:MapEntry):Value×Nat:=(e.key,e.born)
def Cnt.shape{es a:List MapEntry}(h:a.map kb=es.map kb)(x)(c:x∈a):∃y∈es,y.key=x.key/\y.born=x.born:=by have b:kb x∈a.map kb:=TG.2 ⟨x,c,rfl⟩;rw[h]at b;obtain⟨y,d,e⟩:=TG.1 b;exact⟨y,d,SL Prod.fst e,SL Prod.snd e⟩
def ud{w b f p es}{a j:Nat}{e}(C:w.heap[b]? =some (.map es a))(m:Cnt es.toList a f)(c:es.toList[j]? =some e)(s:e.key=en p)(I:wfE p)(v:Nat):
 ∃h,(Instr.entryStore 291 (.map (some b)) (.int .i64 e.born) (.int .i64 v)).run (Qs fs) w=.ok () (dD w b h a)/\Cnt h.toList a (λq=>if q=p then v else f q)/\h.toList.map kb=es.toList.map kb:=by
 have J:es[j]? =some e:=by simpa using c
 have o:es.findIdx? (λx=>((x.born:Nat):Int)==((e.born:Nat):Int))=some j:=by rw[WideElems.findIdx_arr];exact WideElems.findIdx_born m.born c
 refine⟨es.modify j (λx=>{x with val:=.int .i64 v}),?_,?_,by rw[Va,ChangeMaps.modify_eq_set _ _ _ _ c,List.map_set];refine WideElems.set_self _ _ _ ?_;rw[TK,c];rfl⟩
 ·simp[Instr.entryStore,MapKept.run_getObj_map (P:=Qs fs) C,asInt,asIntOf,o,Result.andThen,MapKept.run_setObj_map (P:=Qs fs) _ C,dD]
 ·rw[Va,ChangeMaps.modify_eq_set _ _ _ _ c]
  have r:j<es.toList.length:=(TC.1 c).1;have mb:∀{K:Type} (g:MapEntry->K),g {e with val:=.int .i64 v}=g e->(es.toList.set j {e with val:=.int .i64 v}).map g=es.toList.map g:=λg L=>by rw[List.map_set,L];refine WideElems.set_self _ _ _ ?_;rw[TK,c];rfl
  have D:(es.toList.map (·.key)).Nodup:=by rw[List.Nodup,List.pairwise_map];exact m.keys
  refine⟨λx t=>?_,by rw[mb (·.born) rfl];exact m.born,?_,λq E=>?_⟩
  ·obtain⟨i,n⟩:=Ty.1 t
   rw[List.getElem?_set]at n;split at n
   ·rename_i k
    subst k;simp only[r,Sj,SV]at n;subst n;obtain⟨q,F,u,G,z⟩:=m.ent e (Ts c);exact⟨p,I,s,by simp,z⟩
   ·rename_i k
    obtain⟨q,F,u,G,z⟩:=m.ent x (Ts n);have d:q≠p:=by rintro rfl;refine k ((List.getElem?_inj (l:=es.toList.map (·.key)) (by simpa using r) D).1 ?_);rw[TK,TK,c,n];show some e.key=some x.key;rw[s,u]
    exact⟨q,F,u,by rw[RY d];exact G,z⟩
  ·have:=mb (·.key) rfl
   have H:((es.toList.set j {e with val:=.int .i64 v}).map (·.key)).Nodup:=by rw[this];exact D
   rw[List.Nodup,List.pairwise_map]at H;exact H
  ·have M:∃x∈es.toList,x.key=en q:=by
    by_cases d:q=p
    ·subst d
     exact⟨e,Ts c,s⟩
    ·rw[RY d]at E
     exact m.all q E
   obtain⟨x,t,A⟩:=M;have:x.key∈(es.toList.set j {e with val:=.int .i64 v}).map (·.key):=by rw[mb (·.key) rfl];exact TG.2 ⟨x,t,rfl⟩
   obtain⟨y,N,B⟩:=TG.1 this;exact⟨y,N,B.trans A⟩
def J4{w b f p st}(h:eO w b f)(l:ik w b p st)(m:wfE p)(v:Nat):
 ∃es a,(Instr.entryStore 291 (.map (some b)) (.int .i64 st) (.int .i64 v)).run (Qs fs) w=.ok () (dD w b es a)/\eO (dD w b es a) b (λq=>if q=p then v else f q):=by
 obtain⟨es,a,g,n⟩:=h;obtain⟨o,d,c,j,e,r,s,i⟩:=l;rw[g]at c;cases c;subst i;obtain⟨k,a1,t,_⟩:=ud fs g n r s m v;exact⟨k,a,a1,_,_,(cT g).1,t⟩
def GO{w b f p es a}(n:w.heap[b]? =some (.map es a))(r:Cnt es.toList a f)(o:wfE p)(s:f p≠0):
 ∃(j:Nat) (e:MapEntry),(Instr.mapEntry 291 (.map (some b)) (en p)).run (Qs fs) w=.ok (.tuple #[.int .i64 (f p),.int .i64 e.born]) (dD w b es a)/\es.toList[j]? =some e/\e.key=en p:=by
 obtain⟨l,q⟩:=rO fs p o;have g:=λt=>(tw fs).check w t q;have h:=(tw fs).stays w q;obtain⟨_,_,i⟩|⟨j,e,u,d,k,v⟩:=r.find fs p o w
 ·exact absurd i s
 ·have m:es[j]? =some e:=by simpa using d
  have c:es.modify j (λe=>{e with key:=en p})=es:=by
   apply UI;rw[Va,ChangeMaps.modify_eq_set _ _ _ _ d];have:({e with key:=en p}:MapEntry)=e:=by rw[<-k]
   rw[this];exact WideElems.set_self _ _ _ d
  refine⟨j,e,?_,d,k⟩;simp[Instr.mapEntry,run_underlying (tx fs),MapKept.run_getObj_map (P:=Qs fs) n,g,u,m,k,h,c,Result.andThen,MapKept.run_setObj_map (P:=Qs fs) _ n,dD,goInt]
end
end Go.Proofs
namespace Go.Proofs
open Go.Tm Go.RowKit
variable {fs:Array Func} (L:bU fs)
def O2(a b c):gZ [a,b,c]=if a≠0 then a else if b≠0 then b else c:=by simp only[gZ];by_cases d:a=0<;>by_cases e:b=0<;>by_cases f:c=0<;>simp[d,e,f]
def O3(a b):gZ [a,b]=if a≠0 then a else b:=by simp only[gZ];by_cases c:a=0<;>by_cases d:b=0<;>simp[c,d]
def vJ(a b c:Int)(w:World):Calls (Qs fs) 51 #[.slice (some ⟨w.heap.size,0,none⟩) 3 3] (w.alloc (.cells #[.int .i64 a,.int .i64 b,.int .i64 c] 29)) λe w'=>e=.returned (.int .i64 (if a≠0 then a else if b≠0 then b else c))/\w'=w.alloc (.cells #[.int .i64 a,.int .i64 b,.int .i64 c] 29):=by
 have h:=Ap L w.heap.size 0 3 [a,b,c] (w.alloc (.cells #[.int .i64 a,.int .i64 b,.int .i64 c] 29)) (by show 3<=_;decide) (λk d=>by
  rw[Se]
  match k,d with
  |0,_=>exact aw w _ 29 0 _ rfl
  |1,_=>exact aw w _ 29 1 _ rfl
  |2,_=>exact aw w _ 29 2 _ rfl)
 rw[O2]at h;exact h
def cJ(a b:Int)(w:World):Calls (Qs fs) 51 #[.slice (some ⟨w.heap.size,0,none⟩) 2 2] (w.alloc (.cells #[.int .i64 a,.int .i64 b] 29)) λe w'=>e=.returned (.int .i64 (if a≠0 then a else b))/\w'=w.alloc (.cells #[.int .i64 a,.int .i64 b] 29):=by
 have h:=Ap L w.heap.size 0 2 [a,b] (w.alloc (.cells #[.int .i64 a,.int .i64 b] 29)) (by show 2<=_;decide) (λk c=>by
  rw[Se]
  match k,c with
  |0,_=>exact aw w _ 29 0 _ rfl
  |1,_=>exact aw w _ 29 1 _ rfl)
 rw[O3]at h;exact h
def kx{w w2 w3 a p}(d:∀B,B<=a->Below B w w2)(e:ae w w2)(b:bL w2 a p)(c:Below w2.heap.size w2 w3):bL w3 a p/\(∀B,B<=a->Below B w w3)/\ae w w3:=⟨b.keep (c.block a b.lt),λB f=>(d B f).trans (c.mono (by have:=b.lt;omega)),e.trans (ae.below c)⟩
def At(a:Bool)(p:Pr2):Int:=if !bD p.1 4 then 3 else if a then 5 else if !aX p.2 1 3 then 3 else 0
def Fq(a b c):(if(if(!a)=true then(3:Int)else 0)≠0 then(if(!a)=true then(3:Int)else 0)else if(if b=true then(5:Int)else 0)≠0 then(if b=true then(5:Int)else 0)else(if(!c)=true then(3:Int)else 0))=if(!a)=true then 3 else if b=true then 5 else if(!c)=true then 3 else 0:=by cases a<;>cases b<;>cases c<;>rfl
def Au(j:Int)(q:Pr2)(Y k:Nat)(p:ByteArray->Bool)(w:World)(s:w.cell? ⟨Y,0,none⟩=some (.map (some k)))(F:bL w k p):
 Calls (Qs fs) 98 #[.int .i64 j,.agg #[.string q.1,.string q.2],.pointer (some ⟨Y,0,none⟩)] w λe w'=>e=.returned (.int .i64 (At (p q.1) q))/\bL w' k (λt=>p t||decide (t=q.1))/\(∀B,B<=k->Below B w w')/\ae w w':=by
 have e99:=e99 L;have e52:=e52 L;have e72:=e72 L;have e51:=e51 L;obtain⟨w1,d⟩:=ex (w.alloc (.cells #[.string q.1,.string q.2] 46));have G:ae w w1:=by rw[d];exact ae.alloc _ _
 have H:Below w.heap.size w w1:=by rw[d];exact aG _ _
 have ct:∀i v,(#[.string q.1,.string q.2]:Array Value)[i]? =some v->w1.cell? ⟨w.heap.size,i,none⟩=some v:=λi v h=>by rw[d];exact aw w _ 46 i v h
 obtain⟨N,I⟩:=ex (w.heap.size);have l:=F.keep (H.block k F.lt);have u:=sL fs l q.1;obtain⟨w2,J,y,z,a⟩:=kv fs l q.1;have b1:=G.cell s;have K:=ct 0 _ rfl;have M:=ct 1 _ rfl;rw[<-I]at K M;obtain⟨c,g⟩:=ex (p q.1);rw[<-g]at u;have HH:Hid _:=g;have O:Hid ((∀B,B<=k->Below B w w2)/\ae w w2/\bL w2 k (λt=>p t||decide (t=q.1))):=⟨λB hB=>(H.mono (by have:=F.lt;omega)).trans (z B hB),G.trans a,y⟩
 have A:=a.cell K;have C:=a.cell M;have x0:=λx:aj w2 w2=>x.cell A;have x1:=λx:aj w2 w2=>x.cell C;have m:=λx:aj w2 w2=>aj.calls (vI L q.1 4 x.val (by decide));have n:=λx:aj w2 w2=>aj.calls (j6 L q.2 1 3 x.val (by decide));have b:Hid (At c q=if(!bD q.1 4)=true then 3 else if c=true then 5 else if(!aX q.2 1 3)=true then 3 else 0):=rfl;obtain⟨P,D⟩:=ex (bD q.1 4);obtain⟨Q,E⟩:=ex (aX q.2 1 3);rw[<-D]at m b;rw[<-E]at n b;have R:=λx:aj w2 w2=>aj.same (dz L (!P) 3 x.val);have S:=λx:aj w2 w2=>aj.same (dz L c 5 x.val);have T:=λx:aj w2 w2=>aj.same (dz L (!Q) 3 x.val);obtain⟨U,o⟩:∃f:Int,f=if(!P)=true then 3 else 0:=⟨_,rfl⟩
 obtain⟨fb,hfb⟩:∃f:Int,f=if c=true then 5 else 0:=⟨_,rfl⟩
 obtain⟨Z,r⟩:∃f:Int,f=if(!Q)=true then 3 else 0:=⟨_,rfl⟩
 rw[<-o]at R;rw[<-hfb]at S;rw[<-r]at T;have HF:Hid ((if U≠0 then U else if fb≠0 then fb else Z)=At c q):=by rw[Hid,b.out,o,hfb,r];exact Fq P c Q
 clear D E o hfb r b g;go_enter (n98 L),Tryz.ntmps98;go_upto_region 1 with fail;rw[<-d,<-I];clear d I ct G H l y z a F s;go_upto_region 3 with fail;clear u J b1 K M A C;refine aU (w0:=w2) (w1:=w2) 12 (by kernel_rfl) (by kernel_rfl) (ae.refl _) (Below.refl _ _) ?_;simp only[SN,SI,SZ,SP];haveI V:Nonempty (aj w2 w2):=⟨⟨w2,ae.refl _,Below.refl _ _⟩⟩
 repeat (go_big_quiet_step (first|(go_at_call 99;exact m _)|(go_at_call 72;exact n _)|(go_at_call 52;exact R _)|(go_at_call 52;exact S _)|(go_at_call 52;exact T _)))
 refine wpQuiet_nil ?_;rintro W ⟨⟨_,Sz,Bz⟩,rfl⟩;have X:=vJ L U fb Z W;rw[HF.out]at X;have SB:Hid _:=(⟨Sz,Bz⟩:ae w2 W/\Below w2.heap.size w2 W)
 clear m n R S T x0 x1 V Sz Bz;go_wp2_with (first|(go_at_call 51;refine X.mono ?_;clear X;rintro e w3 ⟨rfl,rfl⟩))
 go_ret;refine⟨by rw[HH.out];rfl,?_⟩;exact O.out.1|>λh=>kx h O.out.2.1 O.out.2.2 (SB.out.2.alloc SB.out.2.size _)
theorem pv{b:Type}(chk:List b->b->Int)(l:List b)(c:Nat->Int)(h:∀j (d:j<l.length),c j=chk (l.take j) l[j]):∀n j,j+n=l.length->eN c n j=eY chk (l.take j) (l.drop j)
 |0,j,d=>by rw[SJ (by omega)];rfl
 |n+1,j,d=>by
  have a:j<l.length:=by omega
  rw[Uf a];unfold eN eY;rw[h j a,pv chk l c h n (j+1) (by omega),Uu a]
def KY{a:Type}{chk:List a->a->Int}{l:List a}{b:Nat->Int}(c d:Int)(h:∀j (e:j<l.length),b j=chk (l.take j) l[j]):vH c d b l.length=aP c d chk l:=by
 unfold vH aP;split
 ·rw[pv chk l b h l.length 0 (by omega)]
  rfl
 ·rfl
def vL{a:Type}(chk:List a->a->Int)(l:List a)(j:Nat):Int:=if h:j<l.length then chk (l.take j) l[j]else 0
def iU{a}(chk)(l:List a)(j)(h:j<l.length):vL chk l j=chk (l.take j) l[j]:=TY h
def nj.p{g fs f a b c d n v w chk}{l:List g}(h:nj fs f a (vL chk l) b c d n v l.length w):Calls (Qs fs) n #[v,.int .i64 c,.int .i64 d,.func (.func f) #[] a] w λe w'=>e=.returned (.int .i64 (aP c d chk l))/\∃j,b j w':=by rw[<-KY c d λj i=>iU chk l j i];exact h
def lG{a:Type}(l:List a)(f j)(h:j<l.length):(l.take (j+1)).any f=((l.take j).any f||f l[j]):=by rw[Uu h,List.any_append];simp
def kV(a b:ByteArray):decide (a=b)=decide (b=a):=by
 by_cases h:a=b
 ·subst h;rfl
 ·rw[R8 h,R8 (Sn h)]
def CI{K:Nat->Prop}{v0 v1 v2:Value}{l:List Pr2}(w:World)(d:aE K 2 dh w v0 l):
 Calls (Qs fs) 55 #[.agg #[v0,v1,v2]] w λe w'=>e=.returned (.int .i64 (aP 0 12 letterF l))/\Below w.heap.size w w':=by
 have e97:=e97 L;obtain⟨g,a⟩:=ex (w.alloc (.cells #[v0,v1,v2] 100));obtain⟨i,b⟩:=ex (g.alloc (.map #[] 0));obtain⟨w1,c⟩:=ex (i.alloc (.cells #[.map (some (w.heap.size+1))] 133));have f:g.heap.size=w.heap.size+1:=by rw[a];simp
 have hsb:i.heap.size=w.heap.size+1+1:=by rw[b,<-f];simp
 have x:ae i w1:=by rw[c];exact ae.alloc _ _
 have v:ae g w1:=(by rw[b];exact ae.alloc _ _:ae g i).trans x;have y:ae w w1:=(by rw[a];exact ae.alloc _ _:ae w g).trans v;have z:Below w.heap.size w w1:=by rw[c,b,a];exact(((Below.refl _ w).alloc (R2 _) _).alloc (by simp) _).alloc (by simp;omega) _
 have ct:w1.cell? ⟨w.heap.size,0,none⟩=some v0:=v.cell (by rw[a];exact aw w _ 100 0 _ rfl);have A:w1.cell? ⟨w.heap.size+1+1,0,none⟩=some (.map (some (w.heap.size+1))):=by rw[c,<-hsb];exact aw i _ 133 0 _ rfl
 have k:bL w1 (w.heap.size+1) (λ_=>false):=by have h:=bL.new g;rw[f,<-b]at h;exact h.keep (by rw[c];exact Below.heap_alloc i _ _ (by omega))
 have m:=d.yS y;have n:=(jS L 98 #[.pointer (some ⟨w.heap.size+1+1,0,none⟩)] 0 12 w1 (λj wr=>ae w1 wr/\Below w.heap.size w wr/\bL wr (w.heap.size+1) (λt=>(l.take j).any (λq=>decide (q.1=t)))) (vL letterF l) (e98 L)
  ⟨ae.refl _,z,k⟩ (λj wr h=>h.1) (λj wr o h=>⟨h.1.trans (ae.alloc _ _),h.2.1.alloc h.2.1.size _,h.2.2.keep (Below.heap_alloc wr o _ h.2.2.lt)⟩)).1 _ m
  (λj B wr h=>(Au L j l[j] (w.heap.size+1+1) (w.heap.size+1) _ wr (h.1.cell A) h.2.2).mono λe w' s=>⟨by rw[iU _ _ _ B];exact s.1,h.1.trans s.2.2.2,h.2.1.trans (s.2.2.1 _ (by omega)),s.2.1.iff λt=>by rw[lG l _ j B,kV t]⟩)
 have n:=n.p;obtain⟨N,u⟩:=ex (w.heap.size);rw[<-u]at ct n;have r:Calls (Qs fs) 97 #[v0,.int .i64 0,.int .i64 12,.func (.func 98) #[] #[.pointer (some ⟨N+1+1,0,none⟩)]] w1 λe w'=>e=.returned (.int .i64 (aP 0 12 letterF l))/\Below w.heap.size w w':=n.mono λe w' h=>by obtain⟨D,j,C,E,_⟩:=h;exact⟨D,by rw[<-u];exact E⟩
 have F:∀(fn:Fn) (first cap:Array Value) (w:World),(Instr.makeFunc fn first cap).run (Qs fs) w=.ok (.func fn first cap) w:=λ_ _ _ _=>rfl;have G:∀(t:TypeId) (w:World),(Instr.makeMap t none).run (Qs fs) w=.ok (.map (some w.heap.size)) (w.alloc (.map #[] 0)):=λ_ _=>rfl;clear n k A m y z d;go_enter (n55 L),Tryz.ntmps55;go_upto_region 2 with fail;rw[<-a,<-b,<-c,<-u];clear a b c f hsb v x u;go_wp2_with (first|(go_at_call 97;refine r.mono ?_;clear r;rintro e w2 ⟨rfl,C⟩))
 go_ret;exact⟨rfl,C⟩
def CJ(j:Int)(q:Pr2)(w:World):
 Calls (Qs fs) 104 #[.int .i64 j,.agg #[.string q.1,.string q.2]] w λe w'=>e=.returned (.int .i64 (dQ [] q))/\Below w.heap.size w w':=by
 have e52:=e52 L;have e72:=e72 L;have s:Hid (dQ [] q=if(!aX q.1 1 3|| !aX q.2 0 q.1.size)=true then 3 else 0):=rfl;obtain⟨w1,a⟩:=ex (w.alloc (.cells #[.string q.1,.string q.2] 51));have o:Below w.heap.size w w1:=by rw[a];exact aG _ _
 have ct:∀i v,(#[.string q.1,.string q.2]:Array Value)[i]? =some v->w1.cell? ⟨w.heap.size,i,none⟩=some v:=λi v h=>by rw[a];exact aw w _ 51 i v h
 obtain⟨N,l⟩:=ex (w.heap.size);have t:=ct 0 _ rfl;have u:=ct 1 _ rfl;rw[<-l]at t u;have g:=λf=>j6 L q.1 1 3 f (by decide);have k:Hid _:=o;cases d:aX q.1 1 3 with
 |false=>
  rw[d]at g;have n:Hid (dQ [] q=3):=by rw[Hid,s.out,d];rfl
  have c:=λf=>dz L true 3 f;simp only[Sj]at c;clear d;go_enter (n104 L),Tryz.ntmps104;go_upto_region 1 with fail;rw[<-a,<-l];clear a l ct o;go_wp2_with (first|(go_at_call 72;refine(g _).mono ?_;clear g;rintro e w2 ⟨rfl,b⟩)|(go_at_call 52;refine(c _).mono ?_;rintro e w3 ⟨rfl,rfl⟩))
  go_ret;exact⟨by rw[n.out];rfl,k.out.trans (b.mono k.out.size)⟩
 |true=>
  rw[d]at g;have x:q.1.size<=1000:=by unfold aX aD at d;simp only[Sf,Sq]at d;omega
  have n:Hid (dQ [] q=if(!aX q.2 0 q.1.size)=true then 3 else 0):=by rw[Hid,s.out,d];rfl
  have p:=λf=>j6 L q.2 0 q.1.size f (by omega);obtain⟨z,m⟩:=ex (aX q.2 0 q.1.size);rw[<-m]at p n;have c:=λf=>dz L (!z) 3 f;rw[<-n.out]at c;clear d m;go_enter (n104 L),Tryz.ntmps104;go_upto_region 1 with fail;rw[<-a,<-l];clear a l ct o;go_wp2_with (first|(go_at_call 72;refine(g _).mono ?_;clear g;rintro e w2 ⟨rfl,b⟩;have y:=(ae.below b).cell t;have A:=(ae.below b).cell u)|(go_at_call 72;refine(p _).mono ?_;clear p;rintro e w3 ⟨rfl,r⟩)|(go_at_call 52;refine(c _).mono ?_;rintro e w4 ⟨rfl,rfl⟩))
  go_ret;exact⟨rfl,(k.out.trans (b.mono k.out.size)).trans (r.mono (k.out.trans (b.mono k.out.size)).size)⟩
def KZ{K:Nat->Prop}{v:Value}{l:List Pr2}(w:World)(a:aE K 2 dh w v l):Calls (Qs fs) 103 #[v,.int .i64 0,.int .i64 5,.func (.func 104) #[] #[]] w λe w'=>e=.returned (.int .i64 (aP 0 5 dQ l))/\Below w.heap.size w w':=by
 have b:=(jS L 104 #[] 0 5 w (λ_ wr=>Below w.heap.size w wr) (vL dQ l) (Ro L) (Below.refl _ _) (λj wr h=>ae.below h) (λj wr o h=>h.alloc h.size _)).2.1 _ a
  (λj d wr h=>(CJ L j l[j] wr).mono λe w' c=>⟨by rw[iU _ _ _ d];exact c.1,h.trans (c.2.mono h.size)⟩)
 have b:=b.p;exact b.mono λe w' h=>⟨h.1,h.2.choose_spec⟩
def qY(a:Bool)(x:jw):Int:=if !dP x.name then 4 else if a then 5 else aP 0 5 dQ x.aT
def Fs{K:Nat->Prop}(j:Int)(x:jw)(vs:Value)(bv u:Nat)(p:ByteArray->Bool)(w:World)(D:w.cell? ⟨bv,0,none⟩=some (.map (some u)))(O:bL w u p)(l:aE K 2 dh w vs x.aT):
 Calls (Qs fs) 101 #[.int .i64 j,.agg #[.string x.name,vs],.pointer (some ⟨bv,0,none⟩)] w λe w'=>e=.returned (.int .i64 (qY (p x.name) x))/\bL w' u (λt=>p t||decide (t=x.name))/\(∀B,B<=u->Below B w w')/\ae w w':=by
 have M7:=M7 L;have e52:=e52 L;have PY:=PY L;have e51:=e51 L;obtain⟨P,Q,rfl,ab,ad,_⟩:=id l;obtain⟨w1,m⟩:=ex (w.alloc (.cells #[.string x.name,.slice P x.aT.length Q] 50));have R:ae w w1:=by rw[m];exact ae.alloc _ _
 have S:Below w.heap.size w w1:=by rw[m];exact aG _ _
 have ct:∀i v,(#[.string x.name,.slice P x.aT.length Q]:Array Value)[i]? =some v->w1.cell? ⟨w.heap.size,i,none⟩=some v:=λi v h=>by rw[m];exact aw w _ 50 i v h
 obtain⟨N,T⟩:=ex (w.heap.size);have y:=O.keep (S.block u O.lt);have F:=sL fs y x.name;obtain⟨w2,U,G,H,d⟩:=kv fs y x.name;have b1:=R.cell D;have V:=ct 0 _ rfl;have W:=ct 1 _ rfl;rw[<-T]at V W;obtain⟨b,n⟩:=ex (p x.name);rw[<-n]at F;have X:Hid _:=n;have q:Hid ((∀B,B<=u->Below B w w2)/\ae w w2/\bL w2 u (λt=>p t||decide (t=x.name))):=⟨λB hB=>(S.mono (by have:=O.lt;omega)).trans (H B hB),R.trans d,G⟩
 have af:=d.cell V;have I:=d.cell W;have HR:Hid (∀c,ae w c->Calls (Qs fs) 103 #[.slice P x.aT.length Q,.int .i64 0,.int .i64 5,.func (.func 104) #[] #[]] c λe w'=>e=.returned (.int .i64 (aP 0 5 dQ x.aT))/\Below c.heap.size c w'):=λc hx=>KZ L c (l.yS hx);have g:Hid (qY b x=if(!dP x.name)=true then 4 else if b=true then 5 else aP 0 5 dQ x.aT):=rfl;have z:=Hf L x.name w2;obtain⟨z1,J⟩:=ex (dP x.name);rw[<-J]at z g;have s:=λc=>dz L (!z1) 4 c;have r:=λc=>dz L b 5 c;have M:Hid (w2.cell? ⟨N,1,none⟩=some (.slice P x.aT.length Q)):=I;clear J n;go_enter (n101 L),Tryz.ntmps101;go_upto_region 1 with fail;rw[<-m,<-T];clear m T ct R S y G H d O D l;go_upto_region 3 with fail;clear F U b1 V W I;cases z1 with
 |false=>
  have k:=λc:World=>cJ L 4 (if b=true then 5 else 0) c;have C:Hid (qY b x=4):=by rw[Hid,g.out];rfl
  simp only[Ul,Sj]at s;rw[show(if(4:Int)≠0 then(4:Int)else if b=true then 5 else 0)=4 from rfl]at k;obtain⟨fb,hfb⟩:∃f:Int,f=if b=true then 5 else 0:=⟨_,rfl⟩
  simp only[<-hfb]at r k;clear hfb;go_wp2_with (first|(go_at_call 102;refine z.mono ?_;clear z;rintro e w3 ⟨rfl,a⟩)|(go_at_call 52;refine(s _).mono ?_;clear s;rintro e w4 ⟨rfl,rfl⟩)|(go_at_call 52;refine(r _).mono ?_;clear r;rintro e w4 ⟨rfl,rfl⟩)|(go_at_call 51;refine(k _).mono ?_;clear k;rintro e w4 ⟨rfl,rfl⟩))
  go_ret;exact⟨by rw[<-X.out,C.out];rfl,kx q.out.1 q.out.2.1 q.out.2.2 (a.alloc a.size _)⟩
 |true=>
  simp only[TD,Ss,Sp]at s;cases b with
  |true=>
   have k:=λc:World=>cJ L 0 5 c;have C:Hid (qY true x=5):=by rw[Hid,g.out];rfl
   simp only[Sj]at r;rw[show(if(0:Int)≠0 then(0:Int)else 5)=5 from rfl]at k;go_wp2_with (first|(go_at_call 102;refine z.mono ?_;clear z;rintro e w3 ⟨rfl,a⟩;have A:=(ae.below a).cell M.out;have Y:=λo:Obj=>(ae.alloc w3 o).cell A)|(go_at_call 52;refine(s _).mono ?_;clear s;rintro e w4 ⟨rfl,rfl⟩)|(go_at_call 52;refine(r _).mono ?_;clear r;rintro e w4 ⟨rfl,rfl⟩)|(go_at_call 51;refine(k _).mono ?_;clear k;rintro e w4 ⟨rfl,rfl⟩))
   go_ret;exact⟨by rw[<-X.out,C.out];rfl,kx q.out.1 q.out.2.1 q.out.2.2 (a.alloc a.size _)⟩
  |false=>
   have k:=λc:World=>cJ L 0 0 c;have C:Hid (qY false x=aP 0 5 dQ x.aT):=by rw[Hid,g.out];rfl
   simp only[Ss,Sp]at r;rw[show(if(0:Int)≠0 then(0:Int)else 0)=0 from rfl]at k;obtain⟨E,hE⟩:=ex (aP 0 5 dQ x.aT);rw[<-hE]at HR C;clear hE;go_wp2_with (first|(go_at_call 102;refine z.mono ?_;clear z;rintro e w3 ⟨rfl,a⟩;have A:=(ae.below a).cell M.out;have Y:=λo:Obj=>(ae.alloc w3 o).cell A)|(go_at_call 52;refine(s _).mono ?_;clear s;rintro e w4 ⟨rfl,rfl⟩)|(go_at_call 52;refine(r _).mono ?_;clear r;rintro e w4 ⟨rfl,rfl⟩)|(go_at_call 51;refine(k _).mono ?_;clear k;rintro e w4 ⟨rfl,rfl⟩)|(go_at_call 103;refine(HR.out _ (q.out.2.1.trans ((ae.below a).trans (ae.alloc _ _)))).mono ?_;rintro e w5 ⟨rfl,Z⟩))
   go_ret;have aa:=(a.alloc a.size (.cells #[.int .i64 0,.int .i64 0] 29)).trans (Z.mono (a.alloc a.size (.cells #[.int .i64 0,.int .i64 0] 29)).size);exact⟨by rw[<-X.out,C.out];rfl,kx q.out.1 q.out.2.1 q.out.2.2 aa⟩
end Go.Proofs
