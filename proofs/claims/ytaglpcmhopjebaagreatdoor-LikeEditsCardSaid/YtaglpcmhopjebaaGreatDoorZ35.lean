import Derived.MapKept
import Derived.WideKeyEntry
import Derived.DeepKeys4
import Derived.Maps.RangeRun
import Derived.Test.YtaglpcmhopjebaaGreatDoorZ33
set_option linter.all false
set_option maxRecDepth 100000
set_option maxHeartbeats 20000000
namespace Go.Proofs
open Go.Tm Go.RowKit Go.MapKept
def bN(w:World)(b:Nat)(p:ByteArray->Bool):Prop:=∃es a,w.heap[b]? =some (.map es a)/\(∀e∈es.toList,∃s,e.key=.string s/\e.val=.bool true)/\∀s,p s=true↔∃e∈es.toList,e.key=.string s
def bN.new(w:World):bN (w.alloc (.map #[] 0)) w.heap.size (λ_=>false):=⟨#[],0,R8,λe a=>(by cases a),λs=>⟨λh=>(by cases h),λ⟨e,a,_⟩=>(by cases a)⟩⟩
def bN.keep{w w' b p}(h:bN w b p)(c:w'.heap[b]? =w.heap[b]?):bN w' b p:=by obtain⟨es,a,d,e,f⟩:=h;exact⟨es,a,c.trans d,e,f⟩
def bN.lt{w b p}(h:bN w b p):b<w.heap.size:=by obtain⟨es,a,c,_⟩:=h;exact(Rx.1 c).1
def bN.iff{w b p q}(h:bN w b p)(c:∀s,p s=q s):bN w b q:=by obtain⟨es,a,d,e,f⟩:=h;exact⟨es,a,d,e,λs=>by rw[<-c];exact f s⟩
theorem nJ(s):∀(es) (i),(∀e∈es,∃t,e.key=.string t/\e.val=.bool true)->
 (∃j,∃h,Instr.findNow .string (.string s) es i=some (some (i+j,.bool true))/\es[j].key=.string s)\/(Instr.findNow .string (.string s) es i=some none/\∀e∈es,e.key≠ .string s)
 | [],i,_=>.inr ⟨rfl,λe p=>(by cases p)⟩
 |e::es,i,h=>by
  obtain⟨t,k,q⟩:=h e (TM ..);obtain⟨r,l,g⟩:=sameNow_of_keys (d:=.string) (a:=.string s) (b:=.string t) (by simp[IsKey]) (by simp[IsKey]);by_cases c:s=t
  ·subst c
   rw[g.2 rfl]at l;refine .inl ⟨0,by simp,?_,k⟩;rw[Instr.findNow,k,l,q];rfl
  ·have m:r=false:=by
    cases r with
    |false=>rfl
    |true=>have:=g.1 rfl;cases this;exact absurd rfl c
   rw[m]at l;have f:Instr.findNow .string (.string s) (e::es) i=Instr.findNow .string (.string s) es (i+1):=by rw[Instr.findNow,k,l]
   rw[f];obtain⟨j,u,n,o⟩|⟨n,o⟩:=nJ s es (i+1) (λx hx=>h x (TN _ hx))
   ·refine .inl ⟨j+1,by simpa using u,?_,by simpa using o⟩
    rw[n]
    congr 3
    omega
   ·refine .inr ⟨n,λx hx=>?_⟩
    obtain rfl|hx:=RX.1 hx
    ·rw[k]
     intro e;cases e;exact c rfl
    ·exact o x hx
section
variable (fs:Array Func)
def As:(Qs fs).underlying 133=some (.map 9 4):=by rw[aH];exact Tryz.underlying133
def Ib:(Qs fs).underlying 9=some .string:=by rw[aH];exact Tryz.underlying9
def P5(w):(zeroValue 4).run (Qs fs) w=.ok (.bool false) w:=by
 rw[gF];have h:((Tryz.prog.info? 4).bind (·.zero))=some (.bool false):=by kernel_rfl
 cases a:Tryz.prog.info? 4 with
 |none=>rw[a]at h;cases h
 |some i=>rw[a]at h;simp only[TD]at h;simp[zeroValue,typeInfo,a,h]
def sS{w b p}(h:bN w b p)(s):(Instr.lookup 133 (.map (some b)) (.string s) false).run (Qs fs) w=.ok (.bool (p s)) w:=by
 obtain⟨es,c,m,o,n⟩:=h;have a:=λe=>MapKept.run_checkKey (P:=Qs fs) (w:=w) (kt:=9) (k:=.string s) (Ib fs) (by simp[IsKey]) e 9999;obtain⟨j,q,d,f⟩|⟨d,f⟩:=nJ s es.toList 0 o
 ·have g:p s=true:=(n s).2 ⟨_,RN q,f⟩
  rw[g];simp[Instr.lookup,run_underlying (As fs),MapKept.run_getObj_map (P:=Qs fs) m,a,MapKept.run_findKey (P:=Qs fs) (w:=w) (Ib fs) d,Result.andThen]
 ·have g:p s=false:=by
   cases i:p s with
   |false=>rfl
   |true=>obtain⟨e,r,l⟩:=(n s).1 i;exact absurd l (f e r)
  rw[g];simp[Instr.lookup,run_underlying (As fs),MapKept.run_getObj_map (P:=Qs fs) m,a,MapKept.run_findKey (P:=Qs fs) (w:=w) (Ib fs) d,Result.andThen,P5]
def kp{w b p}(h:bN w b p)(s):
 ∃w',(Instr.mapUpdate 133 (.map (some b)) (.string s) (.bool true)).run (Qs fs) w=.ok () w'/\bN w' b (λt=>p t||decide (t=s))/\(∀B,B<=b->Below B w w')/\ae w w':=by
 obtain⟨es,m,n,E,C⟩:=h;have y:=λe=>MapKept.run_checkKey (P:=Qs fs) (w:=w) (kt:=9) (k:=.string s) (Ib fs) (by simp[IsKey]) e 9999;have far:∀o:Obj,(∀B,B<=b->Below B w {w with heap:=w.heap.setIfInBounds b o})/\ae w {w with heap:=w.heap.setIfInBounds b o}:=λo=>by
  refine⟨λB M=>⟨rfl,rfl,rfl,by simp,λk q=>(heap_set n).2 k (by omega)⟩,λk c e f q=>?_⟩;have F:k≠b:=by rintro rfl;rw[n]at q;cases q
  exact((heap_set n).2 k F).trans q
 obtain⟨j,K,D,q⟩|⟨D,q⟩:=nJ s es.toList 0 E
 ·have u:j<es.size:=by simpa using K
  have v:es[j].key=.string s:=by simpa using q
  rw[RA]at D;have G:(Instr.keyThatStays (.string s) (.string s)).run (Qs fs) w=.ok (.string s) w:=by
   have L:Instr.sameBits 10000 (.string s) (.string s)=true:=by obtain⟨r,J,H⟩:=sameNow_of_keys (d:=.string) (a:=.string s) (b:=.string s) (by simp[IsKey]) (by simp[IsKey]);rw[H.2 rfl]at J;simpa[Instr.sameNow,Instr.sameBits]using J
   simp[Instr.keyThatStays,L]
  refine⟨{w with heap:=w.heap.setIfInBounds b (.map (es.modify j λe=>{e with key:=.string s,val:=.bool true}) m)},?_,⟨_,_,(heap_set n).1,?_,?_⟩,far _⟩
  ·simp[Instr.mapUpdate,run_underlying (As fs),MapKept.run_getObj_map (P:=Qs fs) n,y,MapKept.run_findKey (P:=Qs fs) (w:=w) (Ib fs) D,Result.andThen,u,v,G,MapKept.run_setObj_map (P:=Qs fs) _ n]
  ·intro e he
   obtain⟨i,g⟩:=SV.1 he;rw[Su,SF]at g;split at g
   ·cases z:es[i]? with
    |none=>rw[z]at g;cases g
    |some x=>rw[z]at g;cases g;exact⟨s,rfl,rfl⟩
   ·exact E e (by rw[<-Su]at g;exact SL g)
  ·intro t
   rw[T2,RI];constructor
   ·rintro(I|rfl)
    ·obtain⟨e,he,l⟩:=(C t).1 I
     obtain⟨i,g⟩:=SV.1 he;rw[Su]at g;by_cases A:j=i
     ·subst A
      have:es[j]=e:=by rw[RU u]at g;exact RS g
      rw[this,l]at v;refine⟨{e with key:=.string s,val:=.bool true},SV.2 ⟨j,?_⟩,v.symm⟩;rw[Su,SF,Rn rfl,g];rfl
     ·refine⟨e,SV.2 ⟨i,?_⟩,l⟩
      rw[Su,SF,Rm A,g]
    ·refine⟨{es[j]with key:=.string t,val:=.bool true},SV.2 ⟨j,?_⟩,rfl⟩
     rw[Su,SF,Rn rfl,RU u];rfl
   ·rintro⟨e,he,l⟩
    obtain⟨i,g⟩:=SV.1 he;rw[Su,SF]at g;split at g
    ·cases z:es[i]? with
     |none=>rw[z]at g;cases g
     |some x=>rw[z]at g;cases g;cases l;exact .inr rfl
    ·exact .inl ((C t).2 ⟨e,by rw[<-Su]at g;exact SL g,l⟩)
 ·refine⟨{w with heap:=w.heap.setIfInBounds b (.map (es.push {key:=.string s,val:=.bool true,born:=m}) (m+1))},?_,⟨_,_,(heap_set n).1,?_,?_⟩,far _⟩
  ·simp[Instr.mapUpdate,run_underlying (As fs),MapKept.run_getObj_map (P:=Qs fs) n,y,MapKept.run_findKey (P:=Qs fs) (w:=w) (Ib fs) D,Result.andThen,MapKept.run_setObj_map (P:=Qs fs) _ n]
  ·intro e he
   rw[UY]at he;obtain he|he:=Tr.1 he
   ·exact E e he
   ·cases TB.1 he
    exact⟨s,rfl,rfl⟩
  ·intro t
   rw[T2,RI,UY];constructor
   ·rintro(I|rfl)
    ·obtain⟨e,he,l⟩:=(C t).1 I
     exact⟨e,VC _ he,l⟩
    ·exact⟨_,List.mem_append_right _ (TB.2 rfl),rfl⟩
   ·rintro⟨e,he,l⟩
    obtain he|he:=Tr.1 he
    ·exact .inl ((C t).2 ⟨e,he,l⟩)
    ·cases TB.1 he
     cases l;exact .inr rfl
end
def eu(p:Bool×Int):Value:=.agg #[.bool p.1,.int .i64 p.2]
def Ej{p q}(h:eu p=eu q):p=q:=by unfold eu at h;cases p;cases q;simp at h;simp[h.1,h.2]
section
variable (fs:Array Func)
def OY:(Qs fs).keyTypeAt 2 293=true:=by kernel_rfl
def LN:(Qs fs).tiled 2 293=true:=by kernel_rfl
def Gn:(Qs fs).keyType 293=true:=by kernel_rfl
def LP:∃F,(Qs fs).underlying 293=some (.struct F):=⟨_,(aH _ _ _).trans Tryz.underlying293⟩
def tE:WideMaps.KeyLaw (Qs fs) 293:=by refine deep_law (m:=2) (by omega) (OY fs) (LN fs) ?_;obtain⟨F,h⟩:=LP fs;rw[h]
def Ek:(Qs fs).cellsOf 293=2:=by kernel_rfl
def OZ:(Qs fs).cellsOf 4=1:=by kernel_rfl
def O0:(Qs fs).cellsOf 3=1:=by kernel_rfl
def O2:293<(Qs fs).types.size:=Sp (by kernel_rfl)
def ND(b n)(h:(Lit.int .i64 n).wf=true)(d):(Qs fs).keyLits (d+2) 293 [.bool b,.int .i64 n]=some [.bool b,.int .i64 n]:=by have e:(Qs fs).underlying 4=some .bool:=(aH _ _ _).trans Tryz.underlying4;have f:(Qs fs).underlying 3=some (.int .i64):=(aH _ _ _).trans Tryz.underlying3;obtain⟨S,c⟩:=ex (Tryz.prog.underlying 293);have a:(Qs fs).underlying 293=S:=(aH _ _ _).trans c.symm;rw[Tryz.underlying293]at c;subst c;simp[Program.keyLits,a,e,f,Ek,OZ,O0,h]
def rW(p)(h:(Lit.int .i64 p.2).wf=true):∃l,keyOf (Qs fs) 293 (eu p)=some l:=by
 obtain⟨F,a⟩:=LP fs;obtain⟨d,b⟩:∃d,(Qs fs).types.size+1=d+2:=⟨(Qs fs).types.size-1,by have:=O2 fs;omega⟩
 have c:=ND fs p.1 p.2 h d;have e:(eu p).formed (Qs fs) 293=true:=by simp[eu,Value.formed,a,Ek]
 have f:(eu p).cells.toList=[.bool p.1,.int .i64 p.2]:=rfl;unfold keyOf;rw[a];simp only[Gn,e,Bool.and_self,RF,b,f,c,Sk];exact⟨_,rfl⟩
def tF:(Qs fs).underlying 291=some (.map 293 3):=by kernel_rfl
def Ob(w):(zeroValue 3).run (Qs fs) w=.ok (.int .i64 0) w:=by
 rw[gF];have h:((Tryz.prog.info? 3).bind (·.zero))=some (.int .i64 0):=by kernel_rfl
 cases a:Tryz.prog.info? 3 with
 |none=>rw[a]at h;cases h
 |some i=>rw[a]at h;simp only[TD]at h;simp[zeroValue,typeInfo,a,h]
end
def wfE(p:Bool×Int):Prop:=(Lit.int .i64 p.2).wf=true
structure Cnt(es:List MapEntry)(clock:Nat)(f:Bool×Int->Nat):Prop where
 ent:∀e∈es,∃p,wfE p/\e.key=eu p/\e.val=.int .i64 (f p)/\e.born<clock
 born:(es.map (·.born)).Nodup
 keys:es.Pairwise λx y=>x.key≠y.key
 all:∀p,f p≠0->∃e∈es,e.key=eu p
def eU(w:World)(b:Nat)(f:Bool×Int->Nat):Prop:=∃es a,w.heap[b]? =some (.map es a)/\Cnt es.toList a f
def eU.new(w:World):eU (w.alloc (.map #[] 0)) w.heap.size (λ_=>0):=⟨#[],0,R8,⟨λe a=>(by cases a),List.nodup_nil,List.Pairwise.nil,λp b=>absurd rfl b⟩⟩
def eU.keep{w w' b f}(h:eU w b f)(c:w'.heap[b]? =w.heap[b]?):eU w' b f:=by obtain⟨es,a,d,e⟩:=h;exact⟨es,a,c.trans d,e⟩
def eU.lt{w b f}(h:eU w b f):b<w.heap.size:=by obtain⟨es,a,c,_⟩:=h;exact(Rx.1 c).1
section
variable (fs:Array Func)
def Cnt.find{es a f}(h:Cnt es a f)(p)(i:wfE p)(w):
 ((Instr.findKey 293 (eu p) es).run (Qs fs) w=.ok none w/\(∀e∈es,e.key≠eu p)/\f p=0)\/∃j e,(Instr.findKey 293 (eu p) es).run (Qs fs) w=.ok (some (j,.int .i64 (f p))) w/\es[j]? =some e/\e.key=eu p/\e.val=.int .i64 (f p):=by
 obtain⟨l,k⟩:=rW fs p i;rcases(tE fs).find w k es (λe c=>by obtain⟨q,d,b,_⟩:=h.ent e c;rw[b];exact rW fs q d)with⟨h1,h2⟩|⟨j,e,h1,h2,h3⟩
 ·refine .inl ⟨h1,h2,Uk λm=>?_⟩
  obtain⟨e,c,b⟩:=h.all p m;exact h2 e c b
 ·obtain⟨q,d,b,g,_⟩:=h.ent e (SL h2)
  have:=Ej (b.symm.trans h3);subst this;exact .inr ⟨j,e,by rw[h1,g],h2,h3,g⟩
def rX{w b f}(h:eU w b f)(p)(g:wfE p):(Instr.lookup 291 (.map (some b)) (eu p) false).run (Qs fs) w=.ok (.int .i64 (f p)) w:=by
 obtain⟨es,c,i,k⟩:=h;obtain⟨l,m⟩:=rW fs p g;have a:=λn=>(tE fs).check w n m;obtain⟨d,_,o⟩|⟨j,e,d,_⟩:=k.find fs p g w
 ·rw[o]
  simp[Instr.lookup,run_underlying (tF fs),MapKept.run_getObj_map (P:=Qs fs) i,a,d,Result.andThen,Ob]
 ·simp[Instr.lookup,run_underlying (tF fs),MapKept.run_getObj_map (P:=Qs fs) i,a,d,Result.andThen]
def dF(w:World)(b:Nat)(es:Array MapEntry)(a:Nat):World:={w with heap:=w.heap.setIfInBounds b (.map es a)}
def cT{w b es d g a}(i:w.heap[b]? =some (.map es g)):
 (dF w b d a).heap[b]? =some (.map d a)/\(∀k,k≠b->(dF w b d a).heap[k]? =w.heap[k]?)/\(∀B,B<=b->Below B w (dF w b d a))/\ae w (dF w b d a)/\(dF w b d a).heap.size=w.heap.size:=by
 refine⟨(heap_set i).1,λk h=>(heap_set i).2 k h,λB l=>⟨rfl,rfl,rfl,by simp[dF],λk h=>(heap_set i).2 k (by omega)⟩,λk c e f h=>?_,by simp[dF]⟩;have j:k≠b:=by rintro rfl;rw[i]at h;cases h
 exact((heap_set i).2 k j).trans h
def iw(w:World)(b:Nat)(p:Bool×Int)(st:Nat):Prop:=∃es a,w.heap[b]? =some (.map es a)/\∃(j:Nat) (e:MapEntry),es.toList[j]? =some e/\e.key=eu p/\e.born=st
def Jp{w b f}(h:eU w b f)(p)(r:wfE p):
 ∃es d,∃st:Nat,(Instr.mapEntry 291 (.map (some b)) (eu p)).run (Qs fs) w=.ok (.tuple #[.int .i64 (f p),.int .i64 st]) (dF w b es d)/\eU (dF w b es d) b f/\iw (dF w b es d) b p st:=by
 obtain⟨es,d,g,i⟩:=h;obtain⟨l,z⟩:=rW fs p r;have m:=λB=>(tE fs).check w B z;have s:=(tE fs).stays w z;obtain⟨t,u,A⟩|⟨j,e,t,o,n,L⟩:=i.find fs p r w
 ·refine⟨es.push ⟨eu p,.int .i64 0,d⟩,d+1,d,?_,⟨_,_,(cT g).1,?_⟩,⟨_,_,(cT g).1,es.size,⟨eu p,.int .i64 0,d⟩,by simp,rfl,rfl⟩⟩
  ·rw[A]
   simp[Instr.mapEntry,run_underlying (tF fs),MapKept.run_getObj_map (P:=Qs fs) g,m,t,Result.andThen,Ob,MapKept.run_setObj_map (P:=Qs fs) _ g,dF,goInt]
  ·rw[UY]
   refine⟨λx hx=>?_,?_,?_,λq C=>?_⟩
   ·obtain hx|hx:=Tr.1 hx
    ·obtain⟨q,D,E,F,G⟩:=i.ent x hx
     exact⟨q,D,E,F,by omega⟩
    ·cases TB.1 hx
     exact⟨p,r,rfl,by rw[A];rfl,by simp⟩
   ·rw[Tz]
    refine List.nodup_append.2 ⟨i.born,by simp,λa H c I e=>?_⟩;obtain⟨x,hx,rfl⟩:=SQ.1 H;obtain⟨_,_,_,_,G⟩:=i.ent x hx;simp at I;omega
   ·refine List.pairwise_append.2 ⟨i.keys,List.pairwise_singleton _ _,λx hx y J=>?_⟩
    cases TB.1 J;exact u x hx
   ·obtain⟨e,K,n⟩:=i.all q C
    exact⟨e,VC _ K,n⟩
 ·have v:es[j]? =some e:=by simpa using o
  have k:es.modify j (λe=>{e with key:=eu p})=es:=by
   apply Uf;rw[UD,ChangeMaps.modify_eq_set _ _ _ _ o];have:({e with key:=eu p}:MapEntry)=e:=by rw[<-n]
   rw[this];exact WideElems.set_self _ _ _ o
  refine⟨es,d,e.born,?_,⟨_,_,(cT g).1,i⟩,⟨_,_,(cT g).1,j,e,o,n,rfl⟩⟩;simp[Instr.mapEntry,run_underlying (tF fs),MapKept.run_getObj_map (P:=Qs fs) g,m,t,v,n,s,k,Result.andThen,MapKept.run_setObj_map (P:=Qs fs) _ g,dF,goInt]
def kb(e:MapEntry):Value×Nat:=(e.key,e.born)
def Cnt.shape{es a:List MapEntry}(h:a.map kb=es.map kb)(x)(c:x∈a):∃y∈es,y.key=x.key/\y.born=x.born:=by have b:kb x∈a.map kb:=SQ.2 ⟨x,c,rfl⟩;rw[h]at b;obtain⟨y,d,e⟩:=SQ.1 b;exact⟨y,d,R3 Prod.fst e,R3 Prod.snd e⟩
def uk{w b f p es}{a j:Nat}{e}(C:w.heap[b]? =some (.map es a))(m:Cnt es.toList a f)(c:es.toList[j]? =some e)(s:e.key=eu p)(I:wfE p)(v:Nat):
 ∃h,(Instr.entryStore 291 (.map (some b)) (.int .i64 e.born) (.int .i64 v)).run (Qs fs) w=.ok () (dF w b h a)/\Cnt h.toList a (λq=>if q=p then v else f q)/\h.toList.map kb=es.toList.map kb:=by
 have J:es[j]? =some e:=by simpa using c
 have o:es.findIdx? (λx=>((x.born:Nat):Int)==((e.born:Nat):Int))=some j:=by rw[WideElems.findIdx_arr];exact WideElems.findIdx_born m.born c
 refine⟨es.modify j (λx=>{x with val:=.int .i64 v}),?_,?_,by rw[UD,ChangeMaps.modify_eq_set _ _ _ _ c,List.map_set];refine WideElems.set_self _ _ _ ?_;rw[TC,c];rfl⟩
 ·simp[Instr.entryStore,MapKept.run_getObj_map (P:=Qs fs) C,asInt,asIntOf,o,Result.andThen,MapKept.run_setObj_map (P:=Qs fs) _ C,dF]
 ·rw[UD,ChangeMaps.modify_eq_set _ _ _ _ c]
  have r:j<es.toList.length:=(Tq.1 c).1;have mb:∀{K:Type} (g:MapEntry->K),g {e with val:=.int .i64 v}=g e->(es.toList.set j {e with val:=.int .i64 v}).map g=es.toList.map g:=λg L=>by rw[List.map_set,L];refine WideElems.set_self _ _ _ ?_;rw[TC,c];rfl
  have D:(es.toList.map (·.key)).Nodup:=by rw[List.Nodup,List.pairwise_map];exact m.keys
  refine⟨λx t=>?_,by rw[mb (·.born) rfl];exact m.born,?_,λq E=>?_⟩
  ·obtain⟨i,n⟩:=SV.1 t
   rw[List.getElem?_set]at n;split at n
   ·rename_i k
    subst k;simp only[r,RF,Se]at n;subst n;obtain⟨q,F,u,G,z⟩:=m.ent e (SL c);exact⟨p,I,s,by simp,z⟩
   ·rename_i k
    obtain⟨q,F,u,G,z⟩:=m.ent x (SL n);have d:q≠p:=by rintro rfl;refine k ((List.getElem?_inj (l:=es.toList.map (·.key)) (by simpa using r) D).1 ?_);rw[TC,TC,c,n];show some e.key=some x.key;rw[s,u]
    exact⟨q,F,u,by rw[Rm d];exact G,z⟩
  ·have:=mb (·.key) rfl
   have H:((es.toList.set j {e with val:=.int .i64 v}).map (·.key)).Nodup:=by rw[this];exact D
   rw[List.Nodup,List.pairwise_map]at H;exact H
  ·have M:∃x∈es.toList,x.key=eu q:=by
    by_cases d:q=p
    ·subst d
     exact⟨e,SL c,s⟩
    ·rw[Rm d]at E
     exact m.all q E
   obtain⟨x,t,A⟩:=M;have:x.key∈(es.toList.set j {e with val:=.int .i64 v}).map (·.key):=by rw[mb (·.key) rfl];exact SQ.2 ⟨x,t,rfl⟩
   obtain⟨y,N,B⟩:=SQ.1 this;exact⟨y,N,B.trans A⟩
def Jq{w b f p st}(h:eU w b f)(l:iw w b p st)(m:wfE p)(v:Nat):
 ∃es a,(Instr.entryStore 291 (.map (some b)) (.int .i64 st) (.int .i64 v)).run (Qs fs) w=.ok () (dF w b es a)/\eU (dF w b es a) b (λq=>if q=p then v else f q):=by
 obtain⟨es,a,g,n⟩:=h;obtain⟨o,d,c,j,e,r,s,i⟩:=l;rw[g]at c;cases c;subst i;obtain⟨k,a1,t,_⟩:=uk fs g n r s m v;exact⟨k,a,a1,_,_,(cT g).1,t⟩
def Gp{w b f p es a}(n:w.heap[b]? =some (.map es a))(r:Cnt es.toList a f)(o:wfE p)(s:f p≠0):
 ∃(j:Nat) (e:MapEntry),(Instr.mapEntry 291 (.map (some b)) (eu p)).run (Qs fs) w=.ok (.tuple #[.int .i64 (f p),.int .i64 e.born]) (dF w b es a)/\es.toList[j]? =some e/\e.key=eu p:=by
 obtain⟨l,q⟩:=rW fs p o;have g:=λt=>(tE fs).check w t q;have h:=(tE fs).stays w q;obtain⟨_,_,i⟩|⟨j,e,u,d,k,v⟩:=r.find fs p o w
 ·exact absurd i s
 ·have m:es[j]? =some e:=by simpa using d
  have c:es.modify j (λe=>{e with key:=eu p})=es:=by
   apply Uf;rw[UD,ChangeMaps.modify_eq_set _ _ _ _ d];have:({e with key:=eu p}:MapEntry)=e:=by rw[<-k]
   rw[this];exact WideElems.set_self _ _ _ d
  refine⟨j,e,?_,d,k⟩;simp[Instr.mapEntry,run_underlying (tF fs),MapKept.run_getObj_map (P:=Qs fs) n,g,u,m,k,h,c,Result.andThen,MapKept.run_setObj_map (P:=Qs fs) _ n,dF,goInt]
end
end Go.Proofs
namespace Go.Proofs
open Go.Tm Go.RowKit
variable {fs:Array Func} (L:bX fs)
def Oj(a b c):ej [a,b,c]=if a≠0 then a else if b≠0 then b else c:=by simp only[ej];by_cases d:a=0<;>by_cases e:b=0<;>by_cases f:c=0<;>simp[d,e,f]
def Ok(a b):ej [a,b]=if a≠0 then a else b:=by simp only[ej];by_cases c:a=0<;>by_cases d:b=0<;>simp[c,d]
def Cx(a b c:Int)(w:World):Calls (Qs fs) 51 #[.slice (some ⟨w.heap.size,0,none⟩) 3 3] (w.alloc (.cells #[.int .i64 a,.int .i64 b,.int .i64 c] 29)) λe w'=>e=.returned (.int .i64 (if a≠0 then a else if b≠0 then b else c))/\w'=w.alloc (.cells #[.int .i64 a,.int .i64 b,.int .i64 c] 29):=by
 have h:=uR L w.heap.size 0 3 [a,b,c] (w.alloc (.cells #[.int .i64 a,.int .i64 b,.int .i64 c] 29)) (by show 3<=_;decide) (λk d=>by
  rw[RA]
  match k,d with
  |0,_=>exact av w _ 29 0 _ rfl
  |1,_=>exact av w _ 29 1 _ rfl
  |2,_=>exact av w _ 29 2 _ rfl)
 rw[Oj]at h;exact h
def dg(a b:Int)(w:World):Calls (Qs fs) 51 #[.slice (some ⟨w.heap.size,0,none⟩) 2 2] (w.alloc (.cells #[.int .i64 a,.int .i64 b] 29)) λe w'=>e=.returned (.int .i64 (if a≠0 then a else b))/\w'=w.alloc (.cells #[.int .i64 a,.int .i64 b] 29):=by
 have h:=uR L w.heap.size 0 2 [a,b] (w.alloc (.cells #[.int .i64 a,.int .i64 b] 29)) (by show 2<=_;decide) (λk c=>by
  rw[RA]
  match k,c with
  |0,_=>exact av w _ 29 0 _ rfl
  |1,_=>exact av w _ 29 1 _ rfl)
 rw[Ok]at h;exact h
def kq{w w2 w3 a p}(d:∀B,B<=a->Below B w w2)(e:ae w w2)(b:bN w2 a p)(c:Below w2.heap.size w2 w3):bN w3 a p/\(∀B,B<=a->Below B w w3)/\ae w w3:=⟨b.keep (c.block a b.lt),λB f=>(d B f).trans (c.mono (by have:=b.lt;omega)),e.trans (ae.below c)⟩
def At(a:Bool)(p:Pr2):Int:=if !dz p.1 4 then 3 else if a then 5 else if !bp p.2 1 3 then 3 else 0
def E4(a b c):(if(if(!a)=true then(3:Int)else 0)≠0 then(if(!a)=true then(3:Int)else 0)else if(if b=true then(5:Int)else 0)≠0 then(if b=true then(5:Int)else 0)else(if(!c)=true then(3:Int)else 0))=if(!a)=true then 3 else if b=true then 5 else if(!c)=true then 3 else 0:=by cases a<;>cases b<;>cases c<;>rfl
def Au(j:Int)(q:Pr2)(Y k:Nat)(p:ByteArray->Bool)(w:World)(s:w.cell? ⟨Y,0,none⟩=some (.map (some k)))(F:bN w k p):
 Calls (Qs fs) 98 #[.int .i64 j,.agg #[.string q.1,.string q.2],.pointer (some ⟨Y,0,none⟩)] w λe w'=>e=.returned (.int .i64 (At (p q.1) q))/\bN w' k (λt=>p t||decide (t=q.1))/\(∀B,B<=k->Below B w w')/\ae w w':=by
 have e99:=e99 L;have e52:=e52 L;have e72:=e72 L;have e51:=e51 L;obtain⟨w1,d⟩:=ex (w.alloc (.cells #[.string q.1,.string q.2] 46));have G:ae w w1:=by rw[d];exact ae.alloc _ _
 have H:Below w.heap.size w w1:=by rw[d];exact aF _ _
 have ct:∀i v,(#[.string q.1,.string q.2]:Array Value)[i]? =some v->w1.cell? ⟨w.heap.size,i,none⟩=some v:=λi v h=>by rw[d];exact av w _ 46 i v h
 obtain⟨N,I⟩:=ex (w.heap.size);have l:=F.keep (H.block k F.lt);have u:=sS fs l q.1;obtain⟨w2,J,y,z,a⟩:=kp fs l q.1;have b1:=G.cell s;have K:=ct 0 _ rfl;have M:=ct 1 _ rfl;rw[<-I]at K M;obtain⟨c,g⟩:=ex (p q.1);rw[<-g]at u;have HH:Hid _:=g;have O:Hid ((∀B,B<=k->Below B w w2)/\ae w w2/\bN w2 k (λt=>p t||decide (t=q.1))):=⟨λB hB=>(H.mono (by have:=F.lt;omega)).trans (z B hB),G.trans a,y⟩
 have A:=a.cell K;have C:=a.cell M;have x0:=λx:aj w2 w2=>x.cell A;have x1:=λx:aj w2 w2=>x.cell C;have m:=λx:aj w2 w2=>aj.calls (vN L q.1 4 x.val (by decide));have n:=λx:aj w2 w2=>aj.calls (iO L q.2 1 3 x.val (by decide));have b:Hid (At c q=if(!dz q.1 4)=true then 3 else if c=true then 5 else if(!bp q.2 1 3)=true then 3 else 0):=rfl;obtain⟨P,D⟩:=ex (dz q.1 4);obtain⟨Q,E⟩:=ex (bp q.2 1 3);rw[<-D]at m b;rw[<-E]at n b;have R:=λx:aj w2 w2=>aj.same (du L (!P) 3 x.val);have S:=λx:aj w2 w2=>aj.same (du L c 5 x.val);have T:=λx:aj w2 w2=>aj.same (du L (!Q) 3 x.val);obtain⟨U,o⟩:∃f:Int,f=if(!P)=true then 3 else 0:=⟨_,rfl⟩
 obtain⟨fb,hfb⟩:∃f:Int,f=if c=true then 5 else 0:=⟨_,rfl⟩
 obtain⟨Z,r⟩:∃f:Int,f=if(!Q)=true then 3 else 0:=⟨_,rfl⟩
 rw[<-o]at R;rw[<-hfb]at S;rw[<-r]at T;have HF:Hid ((if U≠0 then U else if fb≠0 then fb else Z)=At c q):=by rw[Hid,b.out,o,hfb,r];exact E4 P c Q
 clear D E o hfb r b g;go_enter (n98 L),Tryz.ntmps98;go_upto_region 1 with fail;rw[<-d,<-I];clear d I ct G H l y z a F s;go_upto_region 3 with fail;clear u J b1 K M A C;refine aV (w0:=w2) (w1:=w2) 12 (by kernel_rfl) (by kernel_rfl) (ae.refl _) (Below.refl _ _) ?_;simp only[R7,Sg,Sj,Si];haveI V:Nonempty (aj w2 w2):=⟨⟨w2,ae.refl _,Below.refl _ _⟩⟩
 repeat (go_big_quiet_step (first|(go_at_call 99;exact m _)|(go_at_call 72;exact n _)|(go_at_call 52;exact R _)|(go_at_call 52;exact S _)|(go_at_call 52;exact T _)))
 refine wpQuiet_nil ?_;rintro W ⟨⟨_,Sz,Bz⟩,rfl⟩;have X:=Cx L U fb Z W;rw[HF.out]at X;have SB:Hid _:=(⟨Sz,Bz⟩:ae w2 W/\Below w2.heap.size w2 W)
 clear m n R S T x0 x1 V Sz Bz;go_wp2_with (first|(go_at_call 51;refine X.mono ?_;clear X;rintro e w3 ⟨rfl,rfl⟩))
 go_ret;refine⟨by rw[HH.out];rfl,?_⟩;exact O.out.1|>λh=>kq h O.out.2.1 O.out.2.2 (SB.out.2.alloc SB.out.2.size _)
theorem pv{c:Type}(a:List c->c->Int)(l:List c)(d:Nat->Int)(h:∀j (e:j<l.length),d j=a (l.take j) l[j]):∀n j,j+n=l.length->df d n j=kL a (l.take j) (l.drop j)
 |0,j,e=>by rw[RR (by omega)];rfl
 |n+1,j,e=>by
  have b:j<l.length:=by omega
  rw[SD b];unfold df kL;rw[h j b,pv a l d h n (j+1) (by omega),Tn b]
def Cy{b:Type}{a:List b->b->Int}{l:List b}{c:Nat->Int}(d e:Int)(h:∀j (f:j<l.length),c j=a (l.take j) l[j]):nh d e c l.length=bq d e a l:=by
 unfold nh bq;split
 ·rw[pv a l c h l.length 0 (by omega)]
  rfl
 ·rfl
def nK{a:Type}(b:List a->a->Int)(l:List a)(j:Nat):Int:=if h:j<l.length then b (l.take j) l[j]else 0
def fI{b}(a)(l:List b)(j)(h:j<l.length):nK a l j=a (l.take j) l[j]:=Tu h
def ni.p{i fs f a c d g n v w b}{l:List i}(h:ni fs f a (nK b l) c d g n v l.length w):Calls (Qs fs) n #[v,.int .i64 d,.int .i64 g,.func (.func f) #[] a] w λe w'=>e=.returned (.int .i64 (bq d g b l))/\∃j,c j w':=by rw[<-Cy d g λj k=>fI b l j k];exact h
def lB{a:Type}(l:List a)(f j)(h:j<l.length):(l.take (j+1)).any f=((l.take j).any f||f l[j]):=by rw[Tn h,List.any_append];simp
def kP(a b:ByteArray):decide (a=b)=decide (b=a):=by
 by_cases h:a=b
 ·subst h;rfl
 ·rw[Rr h,Rr (RJ h)]
def Cz{K:Nat->Prop}{v0 v1 v2:Value}{l:List Pr2}(w:World)(d:aE K 2 dH w v0 l):
 Calls (Qs fs) 55 #[.agg #[v0,v1,v2]] w λe w'=>e=.returned (.int .i64 (bq 0 12 letterF l))/\Below w.heap.size w w':=by
 have e97:=e97 L;obtain⟨g,a⟩:=ex (w.alloc (.cells #[v0,v1,v2] 100));obtain⟨i,b⟩:=ex (g.alloc (.map #[] 0));obtain⟨w1,c⟩:=ex (i.alloc (.cells #[.map (some (w.heap.size+1))] 133));have f:g.heap.size=w.heap.size+1:=by rw[a];simp
 have hsb:i.heap.size=w.heap.size+1+1:=by rw[b,<-f];simp
 have x:ae i w1:=by rw[c];exact ae.alloc _ _
 have v:ae g w1:=(by rw[b];exact ae.alloc _ _:ae g i).trans x;have y:ae w w1:=(by rw[a];exact ae.alloc _ _:ae w g).trans v;have z:Below w.heap.size w w1:=by rw[c,b,a];exact(((Below.refl _ w).alloc (Ro _) _).alloc (by simp) _).alloc (by simp;omega) _
 have ct:w1.cell? ⟨w.heap.size,0,none⟩=some v0:=v.cell (by rw[a];exact av w _ 100 0 _ rfl);have A:w1.cell? ⟨w.heap.size+1+1,0,none⟩=some (.map (some (w.heap.size+1))):=by rw[c,<-hsb];exact av i _ 133 0 _ rfl
 have k:bN w1 (w.heap.size+1) (λ_=>false):=by have h:=bN.new g;rw[f,<-b]at h;exact h.keep (by rw[c];exact Below.heap_alloc i _ _ (by omega))
 have m:=d.yT y;have n:=(iX L 98 #[.pointer (some ⟨w.heap.size+1+1,0,none⟩)] 0 12 w1 (λj wr=>ae w1 wr/\Below w.heap.size w wr/\bN wr (w.heap.size+1) (λt=>(l.take j).any (λq=>decide (q.1=t)))) (nK letterF l) (e98 L)
  ⟨ae.refl _,z,k⟩ (λj wr h=>h.1) (λj wr o h=>⟨h.1.trans (ae.alloc _ _),h.2.1.alloc h.2.1.size _,h.2.2.keep (Below.heap_alloc wr o _ h.2.2.lt)⟩)).1 _ m
  (λj B wr h=>(Au L j l[j] (w.heap.size+1+1) (w.heap.size+1) _ wr (h.1.cell A) h.2.2).mono λe w' s=>⟨by rw[fI _ _ _ B];exact s.1,h.1.trans s.2.2.2,h.2.1.trans (s.2.2.1 _ (by omega)),s.2.1.iff λt=>by rw[lB l _ j B,kP t]⟩)
 have n:=n.p;obtain⟨N,u⟩:=ex (w.heap.size);rw[<-u]at ct n;have r:Calls (Qs fs) 97 #[v0,.int .i64 0,.int .i64 12,.func (.func 98) #[] #[.pointer (some ⟨N+1+1,0,none⟩)]] w1 λe w'=>e=.returned (.int .i64 (bq 0 12 letterF l))/\Below w.heap.size w w':=n.mono λe w' h=>by obtain⟨D,j,C,E,_⟩:=h;exact⟨D,by rw[<-u];exact E⟩
 have F:∀(fn:Fn) (first cap:Array Value) (w:World),(Instr.makeFunc fn first cap).run (Qs fs) w=.ok (.func fn first cap) w:=λ_ _ _ _=>rfl;have G:∀(t:TypeId) (w:World),(Instr.makeMap t none).run (Qs fs) w=.ok (.map (some w.heap.size)) (w.alloc (.map #[] 0)):=λ_ _=>rfl;clear n k A m y z d;go_enter (n55 L),Tryz.ntmps55;go_upto_region 2 with fail;rw[<-a,<-b,<-c,<-u];clear a b c f hsb v x u;go_wp2_with (first|(go_at_call 97;refine r.mono ?_;clear r;rintro e w2 ⟨rfl,C⟩))
 go_ret;exact⟨rfl,C⟩
def CB(j:Int)(q:Pr2)(w:World):
 Calls (Qs fs) 104 #[.int .i64 j,.agg #[.string q.1,.string q.2]] w λe w'=>e=.returned (.int .i64 (jx [] q))/\Below w.heap.size w w':=by
 have e52:=e52 L;have e72:=e72 L;have s:Hid (jx [] q=if(!bp q.1 1 3|| !bp q.2 0 q.1.size)=true then 3 else 0):=rfl;obtain⟨w1,a⟩:=ex (w.alloc (.cells #[.string q.1,.string q.2] 51));have o:Below w.heap.size w w1:=by rw[a];exact aF _ _
 have ct:∀i v,(#[.string q.1,.string q.2]:Array Value)[i]? =some v->w1.cell? ⟨w.heap.size,i,none⟩=some v:=λi v h=>by rw[a];exact av w _ 51 i v h
 obtain⟨N,l⟩:=ex (w.heap.size);have t:=ct 0 _ rfl;have u:=ct 1 _ rfl;rw[<-l]at t u;have g:=λf=>iO L q.1 1 3 f (by decide);have k:Hid _:=o;cases d:bp q.1 1 3 with
 |false=>
  rw[d]at g;have n:Hid (jx [] q=3):=by rw[Hid,s.out,d];rfl
  have c:=λf=>du L true 3 f;simp only[RF]at c;clear d;go_enter (n104 L),Tryz.ntmps104;go_upto_region 1 with fail;rw[<-a,<-l];clear a l ct o;go_wp2_with (first|(go_at_call 72;refine(g _).mono ?_;clear g;rintro e w2 ⟨rfl,b⟩)|(go_at_call 52;refine(c _).mono ?_;rintro e w3 ⟨rfl,rfl⟩))
  go_ret;exact⟨by rw[n.out];rfl,k.out.trans (b.mono k.out.size)⟩
 |true=>
  rw[d]at g;have x:q.1.size<=1000:=by unfold bp au at d;simp only[RD,RI]at d;omega
  have n:Hid (jx [] q=if(!bp q.2 0 q.1.size)=true then 3 else 0):=by rw[Hid,s.out,d];rfl
  have p:=λf=>iO L q.2 0 q.1.size f (by omega);obtain⟨z,m⟩:=ex (bp q.2 0 q.1.size);rw[<-m]at p n;have c:=λf=>du L (!z) 3 f;rw[<-n.out]at c;clear d m;go_enter (n104 L),Tryz.ntmps104;go_upto_region 1 with fail;rw[<-a,<-l];clear a l ct o;go_wp2_with (first|(go_at_call 72;refine(g _).mono ?_;clear g;rintro e w2 ⟨rfl,b⟩;have y:=(ae.below b).cell t;have A:=(ae.below b).cell u)|(go_at_call 72;refine(p _).mono ?_;clear p;rintro e w3 ⟨rfl,r⟩)|(go_at_call 52;refine(c _).mono ?_;rintro e w4 ⟨rfl,rfl⟩))
  go_ret;exact⟨rfl,(k.out.trans (b.mono k.out.size)).trans (r.mono (k.out.trans (b.mono k.out.size)).size)⟩
def J8{K:Nat->Prop}{v:Value}{l:List Pr2}(w:World)(a:aE K 2 dH w v l):Calls (Qs fs) 103 #[v,.int .i64 0,.int .i64 5,.func (.func 104) #[] #[]] w λe w'=>e=.returned (.int .i64 (bq 0 5 jx l))/\Below w.heap.size w w':=by
 have b:=(iX L 104 #[] 0 5 w (λ_ wr=>Below w.heap.size w wr) (nK jx l) (QR L) (Below.refl _ _) (λj wr h=>ae.below h) (λj wr o h=>h.alloc h.size _)).2.1 _ a
  (λj d wr h=>(CB L j l[j] wr).mono λe w' c=>⟨by rw[fI _ _ _ d];exact c.1,h.trans (c.2.mono h.size)⟩)
 have b:=b.p;exact b.mono λe w' h=>⟨h.1,h.2.choose_spec⟩
def rh(a:Bool)(x:lh):Int:=if !gX x.name then 4 else if a then 5 else bq 0 5 jx x.aY
def E5{K:Nat->Prop}(j:Int)(x:lh)(Z:Value)(bv u:Nat)(p:ByteArray->Bool)(w:World)(D:w.cell? ⟨bv,0,none⟩=some (.map (some u)))(O:bN w u p)(l:aE K 2 dH w Z x.aY):
 Calls (Qs fs) 101 #[.int .i64 j,.agg #[.string x.name,Z],.pointer (some ⟨bv,0,none⟩)] w λe w'=>e=.returned (.int .i64 (rh (p x.name) x))/\bN w' u (λt=>p t||decide (t=x.name))/\(∀B,B<=u->Below B w w')/\ae w w':=by
 have Mh:=Mh L;have e52:=e52 L;have Pg:=Pg L;have e51:=e51 L;obtain⟨ao,cp,rfl,aa,ab,_⟩:=id l;obtain⟨w1,m⟩:=ex (w.alloc (.cells #[.string x.name,.slice ao x.aY.length cp] 50));have P:ae w w1:=by rw[m];exact ae.alloc _ _
 have Q:Below w.heap.size w w1:=by rw[m];exact aF _ _
 have ct:∀i v,(#[.string x.name,.slice ao x.aY.length cp]:Array Value)[i]? =some v->w1.cell? ⟨w.heap.size,i,none⟩=some v:=λi v h=>by rw[m];exact av w _ 50 i v h
 obtain⟨N,R⟩:=ex (w.heap.size);have y:=O.keep (Q.block u O.lt);have F:=sS fs y x.name;obtain⟨w2,S,G,H,d⟩:=kp fs y x.name;have b1:=P.cell D;have T:=ct 0 _ rfl;have U:=ct 1 _ rfl;rw[<-R]at T U;obtain⟨b,n⟩:=ex (p x.name);rw[<-n]at F;have V:Hid _:=n;have q:Hid ((∀B,B<=u->Below B w w2)/\ae w w2/\bN w2 u (λt=>p t||decide (t=x.name))):=⟨λB hB=>(Q.mono (by have:=O.lt;omega)).trans (H B hB),P.trans d,G⟩
 have ad:=d.cell T;have I:=d.cell U;have HR:Hid (∀c,ae w c->Calls (Qs fs) 103 #[.slice ao x.aY.length cp,.int .i64 0,.int .i64 5,.func (.func 104) #[] #[]] c λe w'=>e=.returned (.int .i64 (bq 0 5 jx x.aY))/\Below c.heap.size c w'):=λc hx=>J8 L c (l.yT hx);have g:Hid (rh b x=if(!gX x.name)=true then 4 else if b=true then 5 else bq 0 5 jx x.aY):=rfl;have z:=GD L x.name w2;obtain⟨z1,J⟩:=ex (gX x.name);rw[<-J]at z g;have s:=λc=>du L (!z1) 4 c;have r:=λc=>du L b 5 c;have M:Hid (w2.cell? ⟨N,1,none⟩=some (.slice ao x.aY.length cp)):=I;clear J n;go_enter (n101 L),Tryz.ntmps101;go_upto_region 1 with fail;rw[<-m,<-R];clear m R ct P Q y G H d O D l;go_upto_region 3 with fail;clear F S b1 T U I;cases z1 with
 |false=>
  have k:=λc:World=>dg L 4 (if b=true then 5 else 0) c;have C:Hid (rh b x=4):=by rw[Hid,g.out];rfl
  simp only[TR,RF]at s;rw[show(if(4:Int)≠0 then(4:Int)else if b=true then 5 else 0)=4 from rfl]at k;obtain⟨fb,hfb⟩:∃f:Int,f=if b=true then 5 else 0:=⟨_,rfl⟩
  simp only[<-hfb]at r k;clear hfb;go_wp2_with (first|(go_at_call 102;refine z.mono ?_;clear z;rintro e w3 ⟨rfl,a⟩)|(go_at_call 52;refine(s _).mono ?_;clear s;rintro e w4 ⟨rfl,rfl⟩)|(go_at_call 52;refine(r _).mono ?_;clear r;rintro e w4 ⟨rfl,rfl⟩)|(go_at_call 51;refine(k _).mono ?_;clear k;rintro e w4 ⟨rfl,rfl⟩))
  go_ret;exact⟨by rw[<-V.out,C.out];rfl,kq q.out.1 q.out.2.1 q.out.2.2 (a.alloc a.size _)⟩
 |true=>
  simp only[Tk,RP,RM]at s;cases b with
  |true=>
   have k:=λc:World=>dg L 0 5 c;have C:Hid (rh true x=5):=by rw[Hid,g.out];rfl
   simp only[RF]at r;rw[show(if(0:Int)≠0 then(0:Int)else 5)=5 from rfl]at k;go_wp2_with (first|(go_at_call 102;refine z.mono ?_;clear z;rintro e w3 ⟨rfl,a⟩;have A:=(ae.below a).cell M.out;have W:=λo:Obj=>(ae.alloc w3 o).cell A)|(go_at_call 52;refine(s _).mono ?_;clear s;rintro e w4 ⟨rfl,rfl⟩)|(go_at_call 52;refine(r _).mono ?_;clear r;rintro e w4 ⟨rfl,rfl⟩)|(go_at_call 51;refine(k _).mono ?_;clear k;rintro e w4 ⟨rfl,rfl⟩))
   go_ret;exact⟨by rw[<-V.out,C.out];rfl,kq q.out.1 q.out.2.1 q.out.2.2 (a.alloc a.size _)⟩
  |false=>
   have k:=λc:World=>dg L 0 0 c;have C:Hid (rh false x=bq 0 5 jx x.aY):=by rw[Hid,g.out];rfl
   simp only[RP,RM]at r;rw[show(if(0:Int)≠0 then(0:Int)else 0)=0 from rfl]at k;obtain⟨E,hE⟩:=ex (bq 0 5 jx x.aY);rw[<-hE]at HR C;clear hE;go_wp2_with (first|(go_at_call 102;refine z.mono ?_;clear z;rintro e w3 ⟨rfl,a⟩;have A:=(ae.below a).cell M.out;have W:=λo:Obj=>(ae.alloc w3 o).cell A)|(go_at_call 52;refine(s _).mono ?_;clear s;rintro e w4 ⟨rfl,rfl⟩)|(go_at_call 52;refine(r _).mono ?_;clear r;rintro e w4 ⟨rfl,rfl⟩)|(go_at_call 51;refine(k _).mono ?_;clear k;rintro e w4 ⟨rfl,rfl⟩)|(go_at_call 103;refine(HR.out _ (q.out.2.1.trans ((ae.below a).trans (ae.alloc _ _)))).mono ?_;rintro e w5 ⟨rfl,X⟩))
   go_ret;have Y:=(a.alloc a.size (.cells #[.int .i64 0,.int .i64 0] 29)).trans (X.mono (a.alloc a.size (.cells #[.int .i64 0,.int .i64 0] 29)).size);exact⟨by rw[<-V.out,C.out];rfl,kq q.out.1 q.out.2.1 q.out.2.2 Y⟩
end Go.Proofs
