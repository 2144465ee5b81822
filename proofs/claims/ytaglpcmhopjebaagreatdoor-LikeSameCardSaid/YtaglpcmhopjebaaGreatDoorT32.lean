import Derived.Maps.RangeWalk
import Derived.Test.YtaglpcmhopjebaaGreatDoorT31
set_option linter.all false
set_option maxRecDepth 100000
set_option maxHeartbeats 20000000
namespace Go.Proofs
open Go.Tm Go.RowKit
variable {fs:Array Func} (L:bQ fs)
theorem xT{d}{a:List d->d->Int}:∀{seen l:List d},yV a seen l=0->∀j (c:j<l.length),a (seen++l.take j) l[j]=0
 |seen,[],_,j,c=>absurd c (Tt _)
 |seen,x::xs,h,j,c=>by
  unfold yV at h;by_cases b:a seen x≠0
  ·rw[SS b]at h
   exact absurd h b
  ·rw[SQ b]at h
   have b:a seen x=0:=by omega
   cases j with
   |zero=>simpa using b
   |succ j=>have:=xT h j (by simpa using c);simpa using this
def gz{b}{c d}{a:List b->b->Int}{l:List b}(h:bh c d a l=0):(c<=l.length/\(l.length:Int)<=d)/\∀j (e:j<l.length),a (l.take j) l[j]=0:=by unfold bh aD at h;split at h;rename_i f;simp only[Td,Tj]at f;exact⟨f,λj e=>by simpa using xT h j e⟩;cases h
def mC{b}{d c}{a:List b->b->Int}{l:List b}(h:bh d c a l=0){x}(e:x∈l):∃seen,a seen x=0:=by obtain⟨i,c,rfl⟩:=UR e;exact⟨_,(gz h).2 i c⟩
def iZ{s a hi}(h:bN s a hi=true):a<=s.size/\(s.size:Int)<=hi:=by unfold bN aD at h;simp only[Td,Tj]at h;exact h.1
def sf{t}(h:cO t=0):bh 0 12 letterF t.aq=0/\bh 0 3 jK t.aw=0/\bh 0 4 nD t.di=0:=by unfold cO at h;simp only[]at h;split at h;rename_i a;exact absurd h a;rename_i b;split at h;rename_i a;exact absurd h a;rename_i c;exact⟨by simpa using b,by simpa using c,h⟩
def Hl{t}(h:cO t=0):OkT t:=by (obtain⟨i,j,k⟩:=sf h;have l:=(gz i).1;have m:=(gz j).1;have n:=(gz k).1;have a:∀x∈t.aw,bh 0 5 gY x.aU=0:=λx b=>by obtain⟨seen,e⟩:=mC j b;unfold jK at e;split at e;cases e;split at e;cases e;exact e);refine⟨λp d=>?_,by omega,λx b p d=>?_,λx b=>?_,by omega,by omega⟩;obtain⟨seen,e⟩:=mC i d;unfold letterF at e;split at e;cases e;rename_i c;split at e;cases e;split at e;cases e;rename_i f;(have f:=iZ (by simpa using f);have c:bS p.1 4=true:=by simpa using c);unfold bS aD at c;simp only[Td,Tj]at c;omega;obtain⟨seen,e⟩:=mC (a x b) d;unfold gY at e;split at e;cases e;rename_i g;simp only[WC,Ud,Uy,not_or,Bool.eq_false_iff,ne_eq,Decidable.not_not]at g;have c:=iZ g.1;have f:=iZ g.2;omega;have:=(gz (a x b)).1;omega
def jE(t:Table)(s:ByteArray):Int:=if cO t≠0 then cO t else if 16<s.size then 2 else 0
def EN(t:Table)(s:ByteArray):ByteArray:=if jE t s=0 then bs (aI t.aq s.data.toList)else⟨#[]⟩
def ja(t:Table)(k:Int)(s:ByteArray):Int:=if cO t≠0 then cO t else if !aD k 0 ((t.aw.length:Int)-1)then 6 else if 16<s.size then 2 else 0
def Cb(t:Table)(k:Int)(s:ByteArray):ByteArray:=if ja t k s=0 then bs (bc t k.toNat s.data.toList)else⟨#[]⟩
def EO{t s}(h:jE t s=0):cO t=0/\s.size<=16:=by unfold jE at h;split at h;rename_i a;exact absurd h a;rename_i b;split at h;cases h;exact⟨by simpa using b,by omega⟩
def Cc{t k s}(h:ja t k s=0):cO t=0/\(0<=k/\k<t.aw.length)/\s.size<=16:=by unfold ja at h;split at h;rename_i b;exact absurd h b;rename_i c;split at h;cases h;rename_i a;split at h;cases h;unfold aD at a;simp only[WC,Ud,V7,Td,Tj]at a;exact⟨by simpa using c,by omega,by omega⟩
def IG{K:Nat->Prop}{v0 v1 v2:Value}{t:Table}(s:ByteArray)(w:World)(l:IsTable K w v0 v1 v2 t):Calls (Qs fs) 18 #[.agg #[v0,v1,v2],.string s] w λe w'=>e=.returned (.tuple #[.string (EN t s),.int .i64 (jE t s)])/\Below w.heap.size w w':=by
 by_cases c:jE t s=0;obtain⟨r,C⟩:=EO c;have e:EN t s=bs (aI t.aq s.data.toList):=SS c;rw[e,c];exact Nd L s w l (Hl r).lets r C;have e20:=e20 L;have e51:=e51 L;have e52:=e52 L;have u:EN t s=⟨#[]⟩:=SQ c;rw[u];obtain⟨w1,a⟩:=ex (w.alloc (.cells #[v0,v1,v2] 26));have x:ae w w1:=by rw[a];exact ae.alloc _ _
 have y:Below w.heap.size w w1:=by rw[a];exact aK _ _
 have ct:∀i v,(#[v0,v1,v2]:Array Value)[i]? =some v->w1.cell? ⟨w.heap.size,i,none⟩=some v:=λi v h=>by rw[a];exact az w _ 26 i v h
 have j:=eC L w1 (l.stays x);obtain⟨m,d⟩:=ex (cO t);obtain⟨z,f⟩:=ex (decide ((16:Int)<(s.size:Int)));have n:=λo=>dx L z 2 o;have g:=λo=>cQ L m (if z=true then 2 else 0) o;have k:(if m≠0 then m else if z=true then 2 else 0)=jE t s:=by rw[f,d];unfold jE;by_cases h:16<s.size;rw[Ta (by omega),SS h];rfl;rw[S9 (by omega),SQ h];rfl
 simp only[k]at g;obtain⟨D,b⟩:=ex (jE t s);rw[<-d]at j;rw[<-b]at c⊢;simp only[<-b]at g;have E:(D !=0)=true:=by simpa using c
 obtain⟨N,p⟩:=ex (w.heap.size);rw[<-p]at ct;have F:=ct 0 _ rfl;have G:=ct 1 _ rfl;have H:=ct 2 _ rfl;have A:Hid _:=y;replace f:=f.symm;clear l x y ct d b c u k;go_enter (n18 L),Tryz.ntmps18;go_upto_region 1 with fail;rw[<-a,<-p];clear a p;go_wp2_with (first|(go_at_call 20;refine j.mono ?_;rintro e w2 ⟨rfl,q⟩)|(go_at_call 52;refine(n _).mono ?_;rintro e w3 ⟨rfl,rfl⟩)|(go_at_call 51;refine(g _).mono ?_;rintro e w4 ⟨rfl,rfl⟩));all_goals (
  go_ret2
  have B:=A.out.trans (q.mono A.out.size);exact⟨rfl,B.alloc B.size _⟩)
def NG{K:Nat->Prop}{v0 v1 v2:Value}{t:Table}(k:Int)(s:ByteArray)(w:World)(u:IsTable K w v0 v1 v2 t)(G:fN w):Calls (Qs fs) 22 #[.agg #[v0,v1,v2],.int .i64 k,.string s] w λe w'=>e=.returned (.tuple #[.string (Cb t k s),.int .i64 (ja t k s)])/\Below w.heap.size w w':=by by_cases j:ja t k s=0;obtain⟨H,⟨T,U⟩,V⟩:=Cc j;have e:Cb t k s=bs (bc t k.toNat s.data.toList):=SS j;rw[e,j];have h:=Iz L k.toNat s w u (Hl H) H V (by omega) G;rw[show((k.toNat:Nat):Int)=k by omega]at h;exact h;(have e20:=e20 L;have e51:=e51 L;have e52:=e52 L;have e63:=e63 L;have I:Cb t k s=⟨#[]⟩:=SQ j;rw[I];obtain⟨A,B,rfl,W,X,_⟩:=id u.2.1;obtain⟨w1,a⟩:=ex (w.alloc (.cells #[v0,.slice A t.aw.length B,v2] 26));have J:ae w w1:=by rw[a];exact ae.alloc _ _);(have M:Below w.heap.size w w1:=by rw[a];exact aK _ _);(have ct:∀i v,(#[v0,.slice A t.aw.length B,v2]:Array Value)[i]? =some v->w1.cell? ⟨w.heap.size,i,none⟩=some v:=λi v h=>by rw[a];exact az w _ 26 i v h);(have Y:IntKind.i64.wrap ((t.aw.length:Int)-1)=(t.aw.length:Int)-1:=wrap_i64 _ (by omega);obtain⟨o,l⟩:=ex (cO t);obtain⟨z,m⟩:=ex (decide ((16:Int)<(s.size:Int)));obtain⟨y,C⟩:=ex (aD k 0 ((t.aw.length:Int)-1));have p:∀x:aj w w1,Calls (Qs fs) 20 #[.agg #[v0,.slice A t.aw.length B,v2]] x.val λe w'=>e=.returned (.int .i64 o)/\∃y:aj w w1,w'=y.val:=λx=>by have h:=eC L x.val (u.stays (J.trans x.st));rw[<-l]at h;exact aj.calls h);(have q:∀x:aj w w1,Calls (Qs fs) 63 #[.int .i64 k,.int .i64 0,.int .i64 ((t.aw.length:Int)-1)] x.val λe w'=>e=.returned (.bool y)/\∃y:aj w w1,w'=y.val:=λx=>by have h:=dA fs (n63 L) k 0 ((t.aw.length:Int)-1) x.val;rw[C];exact aj.same h);(have b:∀x:aj w w1,Calls (Qs fs) 52 #[.bool (!y),.int .i64 6] x.val λe w'=>e=.returned (.int .i64 (if(!y)=true then 6 else 0))/\∃y:aj w w1,w'=y.val:=λx=>aj.same (dx L (!y) 6 x.val);have c:∀x:aj w w1,Calls (Qs fs) 52 #[.bool z,.int .i64 2] x.val λe w'=>e=.returned (.int .i64 (if z=true then 2 else 0))/\∃y:aj w w1,w'=y.val:=λx=>aj.same (dx L z 2 x.val);have d:(if o≠0 then o else if(if(!y)=true then 6 else 0)≠(0:Int)then(if(!y)=true then 6 else 0)else(if z=true then 2 else 0))=ja t k s:=by rw[m,l,C];unfold ja;by_cases h:16<s.size;rw[Ta (by omega),SS h];cases aD k 0 ((t.aw.length:Int)-1)<;>rfl;rw[S9 (by omega),SQ h];cases aD k 0 ((t.aw.length:Int)-1)<;>rfl);(obtain⟨O,n⟩:∃f:Int,f=if(!y)=true then 6 else 0:=⟨_,rfl⟩);(obtain⟨fb,hfb⟩:∃f:Int,f=if z=true then 2 else 0:=⟨_,rfl⟩);(have r:=λZ=>wo L o O fb Z;rw[<-n,<-hfb]at d;simp only[<-n]at b;simp only[<-hfb]at c;obtain⟨fl,g⟩:=ex (ja t k s);rw[<-g]at j⊢d;simp only[d]at r;have aa:(fl !=0)=true:=by simpa using j);(obtain⟨N,D⟩:=ex (w.heap.size);rw[<-D]at ct;have P:=ct 0 _ rfl;have Q:=ct 1 _ rfl;have R:=ct 2 _ rfl;have l0:=λx:aj w w1=>x.cell P;have l1:=λx:aj w w1=>x.cell Q;have l2:=λx:aj w w1=>x.cell R;have S:Hid _:=M;replace m:=m.symm;clear u J M ct G l g j I d C n hfb;go_enter (n22 L),Tryz.ntmps22;go_upto_region 1 with fail;rw[<-a,<-D];clear a D P Q R;refine aV (w0:=w) (w1:=w1) 14 (by kernel_rfl) (by kernel_rfl) (ae.refl _) S.out ?_;simp only[TE,TL,TN,TF];haveI E:Nonempty (aj w w1):=⟨⟨w1,ae.refl _,S.out⟩⟩);(repeat (go_big_quiet_step (first|(go_at_call 20;exact p _)|(go_at_call 63;exact q _)|(go_at_call 52;first|exact b _|exact c _))));refine wpQuiet_nil ?_;rintro wy ⟨⟨_,Sy,F⟩,rfl⟩;have B4:Hid _:=F.alloc F.size (.cells #[.int .i64 o,.int .i64 O,.int .i64 fb] 29);clear p q b c Sy F l0 l1 l2 E;go_wp2_with (first|(go_at_call 51;refine(r _).mono ?_;rintro e w4 ⟨rfl,rfl⟩));(go_ret2);exact⟨rfl,B4.out⟩
def NK(m:Mark):Prop:=m.name.size<=100/\m.word.size<=100/\m.aJ.length<=40
def NL{w:World}{N:Nat}{a b c:Value}(h:∀i v,(#[a,b,c]:Array Value)[i]? =some v->w.cell? ⟨N,i,none⟩=some v):w.cell? ⟨N,0,none⟩=some a/\w.cell? ⟨N,1,none⟩=some b/\w.cell? ⟨N,2,none⟩=some c:=⟨h 0 _ rfl,h 1 _ rfl,h 2 _ rfl⟩
def yQ{w:World}{N:Nat}{a b c d e:Value}(h:∀i v,(#[a,b,c,d,e]:Array Value)[i]? =some v->w.cell? ⟨N,i,none⟩=some v):w.cell? ⟨N,0,none⟩=some a/\w.cell? ⟨N,1,none⟩=some b/\w.cell? ⟨N,2,none⟩=some c/\w.cell? ⟨N,3,none⟩=some d/\w.cell? ⟨N,4,none⟩=some e:=⟨h 0 _ rfl,h 1 _ rfl,h 2 _ rfl,h 3 _ rfl,h 4 _ rfl⟩
def NM(w:World){cs:Array Value}{ty}:∀w1,w1=w.alloc (.cells cs ty)->ae w w1/\Below w.heap.size w w1/\∀i v,cs[i]? =some v->w1.cell? ⟨w.heap.size,i,none⟩=some v:=λw1 h=>by subst h;exact⟨ae.alloc _ _,aK _ _,λi v h=>az w _ ty i v h⟩
def NN{K:Nat->Prop}{mc:Array Value}{m:Mark}(w:World)(k:bq K w mc m):Calls (Qs fs) 24 #[.agg mc] w λe w'=>∃z,e=.returned (.bool z)/\(z=false->NK m)/\Below w.heap.size w w':=by
 obtain⟨p,rfl,a⟩:=k;obtain⟨l,c,rfl,_⟩:=id a;obtain⟨w1,b⟩:=ex (w.alloc (.cells #[.string m.name,.string m.word,.slice l m.aJ.length c,.int .i64 m.day,.bool m.known] 38));obtain⟨n,i,ct⟩:=NM w w1 b;obtain⟨N,g⟩:=ex (w.heap.size);rw[<-g]at ct;have q:=ct 0 _ rfl;have r:=ct 1 _ rfl;have s:=ct 2 _ rfl;have d:Hid _:=i;clear n i ct a;go_enter (n24 L),Tryz.ntmps24;go_upto_region 1 with fail;rw[<-b,<-g];clear b g;by_cases f:100<m.name.size
 ·have d0:decide ((100:Int)<(m.name.size:Int))=true:=Ta (by omega);clear f;go_wp2;go_ret;exact⟨true,rfl,(λh=>by cases h),d.out⟩
 have d0:decide ((100:Int)<(m.name.size:Int))=false:=S9 (by omega);by_cases a1:100<m.word.size
 ·have d1:decide ((100:Int)<(m.word.size:Int))=true:=Ta (by omega);clear f a1;go_wp2;go_ret;exact⟨true,rfl,(λh=>by cases h),d.out⟩
 have d1:decide ((100:Int)<(m.word.size:Int))=false:=S9 (by omega);by_cases j:40<m.aJ.length
 ·have d2:decide ((40:Int)<(m.aJ.length:Int))=true:=Ta (by omega);clear f a1 j;go_wp2;go_ret;exact⟨true,rfl,(λh=>by cases h),d.out⟩
 have d2:decide ((40:Int)<(m.aJ.length:Int))=false:=S9 (by omega);have o:NK m:=⟨by omega,by omega,by omega⟩
 clear f a1 j;go_wp2;go_ret;exact⟨false,rfl,(λ_=>o),d.out⟩
def ET(m:Mark):dH m=if !gn m.name then 4 else if !m.word.data.toList.isEmpty&& !bS m.word 16 then 3 else if bh 0 5 codeF m.aJ≠0 then bh 0 5 codeF m.aJ else if !aD m.day 0 99999 then 1 else 0:=rfl
end Go.Proofs
namespace Go.Proofs
open Go.Tm Go.RowKit Go.MapKept
section
variable (fs:Array Func)
end
end Go.Proofs
namespace Go.Proofs
open Go.Tm Go.RowKit Go.MapKept
open Go.ChangeMaps (setBlock)
def Rng(w:World)(b r:Nat)(f:EK->Nat)(left:EK->Bool)(cnt:Nat):Prop:=∃es d c seen e,w.heap[b]? =some (.map es d)/\Cnt es.toList d f/\w.heap[r]? =some (.mapIter (some b) c seen e)/\(∀x∈es.toList,x.born<c)/\c<=e/\c<=d/\(leftOf es seen).size=cnt/\(∀x∈es.toList,∀p,x.key=eh p->left p= !seen.contains x.born)/\∀p,left p=true->∃x∈es.toList,x.key=eh p
variable {w:World} {b r cnt:Nat} {f:EK->Nat} {left:EK->Bool}
def Rng.EJ(h:Rng w b r f left cnt):eN w b f:=by obtain⟨es,c,d,seen,i,e,g,_⟩:=h;exact⟨es,c,e,g⟩
def Rng.ne(h:Rng w b r f left cnt):r≠b:=by obtain⟨es,c,d,seen,i,g,j,e,_⟩:=h;rintro rfl;rw[g]at e;cases e
def Rng.lt(h:Rng w b r f left cnt):r<w.heap.size:=by obtain⟨es,c,d,seen,g,i,j,e,_⟩:=h;exact(S8.1 e).1
def Rng.keep{w'}(h:Rng w b r f left cnt)(e:w'.heap[b]? =w.heap[b]?)(g:w'.heap[r]? =w.heap[r]?):Rng w' b r f left cnt:=by obtain⟨es,c,d,seen,i,j,k,l,m⟩:=h;exact⟨es,c,d,seen,i,e.trans j,k,g.trans l,m⟩
def Rng.left_eq(h:Rng w b r f left cnt):w.rangeLeft b r=cnt:=by obtain⟨es,c,d,seen,j,e,k,g,_,_,_,i,_⟩:=h;simp only[World.rangeLeft,e,g];exact i
def Hj{es c}(h:Cnt es c f){x e}(d:x∈es)(g:e∈es){p q:EK}(i:x.key=eh p)(j:e.key=eh q):p=q↔x.born=e.born:=by constructor;rintro rfl;have:x=e:=entry_eq_of_key h.keys d g (i.trans j.symm);rw[this];intro k;have:x=e:=born_inj h.born d g k;subst this;exact EE (i.symm.trans j)
def Ai(es seen):(leftOf es seen).size=((es.toList.map kb).filter λq=> !seen.contains q.2).length:=by unfold leftOf;rw[<-Array.length_toList,Array.toList_filter,List.filter_map,T2];rfl
section
variable (fs:Array Func)
open Classical in
def Ky(h:eN w b f):∃w' left cnt,(Instr.range 291 (.map (some b))).run (Qs fs) w=.ok (.pointer (some ⟨w.heap.size,0,none⟩)) w'/\Rng w' b w.heap.size f left cnt/\(∀p,f p≠0->left p=true)/\Below w.heap.size w w'/\w'.heap.size=w.heap.size+1:=by obtain⟨es,c,k,i⟩:=id h;refine⟨_,λp=>es.toList.any λe=>decide (e.key=eh p),_,run_range_map w 291 293 3 b es c (tK fs) k,⟨es,c,c,#[],c,((MapKept.heap_alloc w _).2 b h.lt).trans k,i,(MapKept.heap_alloc w _).1,λx d=>?_,SU _,SU _,rfl,λx d p g=>?_,λp g=>?_⟩,λp g=>?_,aK _ _,by simp⟩;obtain⟨q,_,_,_,h⟩:=i.ent x d;exact h;have:(es.toList.any λe=>decide (e.key=eh p))=true:=T9.2 ⟨x,d,Ta g⟩;simpa using this;obtain⟨x,d,j⟩:=T9.1 g;exact⟨x,d,TG j⟩;obtain⟨x,d,j⟩:=i.all p g;exact T9.2 ⟨x,d,Ta j⟩
def Rng.next(h:Rng w b r f left cnt)(ty):((∀p,left p=false)/\(Instr.next (.pointer (some ⟨r,0,none⟩)) false ty).run (Qs fs) w=.ok (.tuple #[.bool false]) w)\/∃p w' t,wfE p/\left p=true/\(Instr.next (.pointer (some ⟨r,0,none⟩)) false ty).run (Qs fs) w=.ok (.tuple #[.bool true,eh p,.int .i64 (f p)]) w'/\Rng w' b r f (λq=>left q&& !decide (q=p)) t/\t<cnt/\w'.os=w.os/\w'.tape=w.tape/\w'.output=w.output/\w'.heap.size=w.heap.size/\(∀k,k≠r->w'.heap[k]? =w.heap[k]?)/\(∀(k:Nat) c e F,w.heap[k]? =some (Obj.cells c e F)->w'.heap[k]? =some (Obj.cells c e F))/\(Instr.entry (.pointer (some ⟨r,0,none⟩))).run (Qs fs) w'=.ok (.tuple #[eh p,.int .i64 (f p)]) w':=by (have G:=h.ne;obtain⟨es,d,g,seen,O,R,F,H,u,I,A,rfl,y,B⟩:=h;rcases run_next_at (P:=Qs fs) w ty r b g O seen es d H R u I with⟨T,l⟩|⟨e,S,w1,i,l⟩);refine .inl ⟨λp=>?_,l⟩;(cases m:left p with|false=>rfl|true=>obtain⟨x,C,J⟩:=B p m;rw[y x C p J,all_seen es seen T x C]at m;cases m);obtain⟨n,K⟩:=mem_left S;(obtain⟨p,U,m,V,W⟩:=F.ent e n;have L:w1.heap[r]? =some (.mapIter (some b) g seen O):=by rcases i with rfl|rfl<;>exact H);(have M:w1.heap[b]? =some (.map es d):=by rcases i with rfl|rfl<;>exact R);have j:=heap_set (o':=.mapIter (some b) g (seen.push e.born) d) L;have D:(setBlock w1 r (.mapIter (some b) g (seen.push e.born) d)).heap[b]? =some (.map es d):=(j.2 b (λe1=>G e1.symm)).trans M;have v:=run_entry_at (P:=Qs fs) _ r b g seen es d e j.1 D n F.born;rw[m,V]at l v;refine .inr ⟨p,_,_,U,by rw[y e n p m,K];rfl,l,⟨es,d,g,seen.push e.born,d,D,F,j.1,u,A,A,rfl,λx C q E=>?_,λq E=>B q (by simp at E;exact E.1)⟩,left_shrinks es seen e S,?_,?_,?_,?_,λk m=>?_,λk c e0 X m=>?_,v⟩;show(left q&& !decide (q=p))=_;rw[y x C q E,contains_push];have:=Hj F C n E m;by_cases s:q=p;have z:=this.1 s;rw[Ta s,z];simp;have z:¬x.born=e.born:=λh=>s (this.2 h);(rw[S9 s];have:(x.born==e.born)=false:=by simpa using z);rw[this];simp;rcases i with rfl|rfl<;>rfl;rcases i with rfl|rfl<;>rfl;rcases i with rfl|rfl<;>rfl;rcases i with rfl|rfl<;>simp[setBlock];exact(j.2 k m).trans (by rcases i with rfl|rfl<;>rfl);(have N:k≠r:=by rintro rfl;rw[H]at m;cases m);exact((j.2 k N).trans (by rcases i with rfl|rfl<;>rfl)).trans m
def Rng.entry(h:Rng w b r f left cnt){p:EK}(k:wfE p)(l:f p≠0):∃es c,∃st:Nat,(Instr.mapEntry 291 (.map (some b)) (eh p)).run (Qs fs) w=.ok (.tuple #[.int .i64 (f p),.int .i64 st]) (dG w b es c)/\Rng (dG w b es c) b r f left cnt/\il (dG w b es c) b p st:=by have i:=h.ne;obtain⟨es,c,d,seen,m,g,F,n,rest⟩:=h;obtain⟨j,e,q,s,t⟩:=Hi fs g F k l;exact⟨es,c,e.born,q,⟨es,c,d,seen,m,(de g).1,F,((de g).2.1 r i).trans n,rest⟩,⟨es,c,(de g).1,j,e,s,t,rfl⟩⟩
def Rng.store(h:Rng w b r f left cnt){p:EK}{st}(K:il w b p st)(L:wfE p)(v:Nat):∃es c,(Instr.entryStore 291 (.map (some b)) (.int .i64 st) (.int .i64 v)).run (Qs fs) w=.ok () (dG w b es c)/\Rng (dG w b es c) b r (λq=>if q=p then v else f q) left cnt:=by have A:=h.ne;obtain⟨es,c,d,seen,M,s,F,N,g,B,C,i,D,E⟩:=h;obtain⟨O,t,k,j,e,P,R,G⟩:=K;rw[s]at k;cases k;subst G;obtain⟨l,a1,S,u⟩:=uu fs s F P R L v;refine⟨l,c,a1,l,c,d,seen,M,(de s).1,S,((de s).2.1 r A).trans N,λx m=>?_,B,C,?_,λx m q H=>?_,λq H=>?_⟩;obtain⟨y,n,_,z⟩:=Cnt.shape u x m;rw[<-z];exact g y n;rw[Ai,u,<-Ai];exact i;obtain⟨y,n,I,z⟩:=Cnt.shape u x m;rw[<-z];exact D y n q (I.trans H);obtain⟨x,m,J⟩:=E q H;obtain⟨y,n,I,z⟩:=Cnt.shape u.symm x m;exact⟨y,n,I.trans J⟩
end
section
variable {fs:Array Func} {ops:Array Oper} {rest:List Oper} {o:Oper} {a:Act} {Q:Exit->Act->World->Prop}
end
end Go.Proofs
