/- lemmas -/
import Derived.Test.YtenljaeklhlanaaGreatAmB
import Derived.RangeFuncNested
import Derived.Below
import Derived.ProofKit
import Derived.OpenShut
import Derived.WalkKit
import Derived.SizedLaws
import Derived.Carry
set_option linter.all false
noncomputable section
namespace Go.Am
structure am5 where
 clo:Nat
 ct:Ty
 et:Ty
 F:Val ct->BY (CK (Val et))
def iB (it:am5) (m:Val it.ct):CK Blk:=[.acc it.et [],.cells (flat it.ct m)]
def Ck:CK AV:=[.yld,.box 1 0]
structure lS (P:Program) (it:am5):Prop where
 agg:it.et.isAgg=false
 ok:∀(g:Ghost) (_:it.et=g.T) (m:Val it.ct) (xs:CK (Val it.et)),it.F m=some xs->@YldP g P ⟨it.et,xs⟩->∀(ν:Nat->Value) (w:World) (vals:CK Value),g.B<=w.heap.size->@HR g ν (iB it m) w->ĕ (@VR g ν (iB it m) w) Ck vals ->
  (∃fn c,P.funcs[it.clo]?=some fn/\fn.body=some c)/\CallsIn Fence.wide 0 P it.clo vals.toArray w fun e w'=>∃ν' h' u,e=.returned u/\@HR g ν' h' w'/\Ev 2 ν (iB it m) w ν' h' w'/\lkB h' 0=.acc it.et xs/\∃cs,lkB h' 1=.cells cs/\Ü it.ct cs=some m
def lS.mono {P:Program} {clo:Nat} {ct et:Ty} {F b:Val ct->BY (CK (Val et))} (h:lS P ⟨clo,ct,et,F⟩) (c:∀m xs,b m=some xs->F m=some xs):lS P ⟨clo,ct,et,b⟩ :=
 ⟨h.agg,fun g d m xs e=>h.ok g d m xs (c m xs e)⟩
def nr0 (id:Nat):AV->Bool
 |.box j _=>!Nat.beq j id
 |_=>true
def nr1 (id:Nat):AV->Bool
 |.fn _ a b=>a.all (nr0 id)&&b.all (nr0 id)
 |v=>nr0 id v
def nr2 (id:Nat):AV->Bool
 |.agg cs=>cs.all (nr1 id)
 |v=>nr1 id v
def nr3 (id:Nat):AV->Bool
 |.tup cs=>cs.all (nr2 id)
 |v=>nr2 id v
def nrB (id:Nat):Blk->Bool
 |.cells cs=>cs.all (nr1 id)
 |_=>true
def clr (id:Nat) (v:AV):AV:=match nr3 id v with
 |true=>v
 |false=>.any
def ĕ.memR {α β:Type} {R d:α->β->Prop}:∀{l:CK α} {m:CK β},(∀a∈l,∀b,R a b->d a b)->ĕ R l m->ĕ d l m
 |[],[],_,_=>trivial
 |a::l,b::m,c,h=>⟨c a (by simp) b h.1,ĕ.memR (fun a ha=>c a (by simp[ha])) h.2⟩
 |[],_::_,_,h=>h.elim
 |_::_,[],_,h=>h.elim
def aiE {f:Blk->Bool} (h0:f .dead=true):∀(l:CK Blk),l.all f=true->∀i,f (lkB l i)=true
 |[],_,i=>by cases i<;>exact h0
 |x::l,h,0=>by simp only[fQ,cW] at h; exact h.1
 |x::l,h,i+1=>by simp only[fQ,cW] at h; exact aiE h0 l h.2 i
def amP {f:AV->Bool} (h0:f .any=true):∀(l:CK AV),l.all f=true->∀i,f (lk l i)=true
 |[],_,i=>by cases i<;>exact h0
 |x::l,h,0=>by simp only[fQ,cW] at h; exact h.1
 |x::l,h,i+1=>by simp only[fQ,cW] at h; exact amP h0 l h.2 i
def amO {f:AV->AV} (h0:f .any=.any):∀(l:CK AV) (i:Nat),lk (l.map f) i=f (lk l i)
 |[],i=>by cases i<;>exact h0.symm
 |x::l,0=>rfl
 |x::l,i+1=>amO h0 l i
section
variable {g:Ghost} {D:CK Deferred} {Q:BY Nat} {M:Nat} {ν:Nat->Value} {h:CK Blk} {w:World} {id b0:Nat} {cs:CK AV}
abbrev amU (g:Ghost) (b0:Nat):Nat->Prop:=fun k=>g.G k\/k=b0
def ajf (f:lkB h id=.cells cs) (d:ν id=.pointer (some ⟨b0,0,none⟩)) (k:Nat) (b:@Av (g.re (amU g b0) D Q M) ν (Đ h id .dead) k):@Av g ν h k:=by
 rcases b with⟨j,c,e⟩|b
 ·refine .inl ⟨j,?_,e⟩;rw[yn] at c
  split at c
  ·cases c
  ·exact c
 ·rcases b with b|rfl
  ·exact .inr b
  ·exact .inl ⟨id,by rw[f]; rfl,by rw[d]; rfl⟩
def Xd (u:lkB h id=.cells cs) (m:ν id=.pointer (some ⟨b0,0,none⟩)) {a:AV} {v:Value} (y:nr0 id a=true) (f:@VR0 g ν h w a v):@VR0 (g.re (amU g b0) D Q M) ν (Đ h id .dead) w a v:=by
 have sub:=ajf (D:=D) (Q:=Q) (M:=M) (g:=g) u m
 have l:∀{j:Nat} {B:Blk},lkB h j=B->(∀cs,B≠.cells cs)->lkB (Đ h id .dead) j=B:=fun {j B} s z=>by
  rw[Ù _ (fun e=>by rw[e,u] at s; exact z _ s.symm)]; exact s
 cases a with
 |slc t xs=>exact CR.mono sub f
 |mp k t es=>exact CR.mono sub f
 |eptr t x off =>
  obtain⟨b,o,us,h1,h2,d,C,A⟩:=f;exact⟨b,o,us,h1,fun q=>h2 (sub b q),d,CR.mono sub C,A⟩
 |own j q=>obtain⟨h1,t,g',fz,xs,h2,d⟩:=f; exact⟨h1,t,g',fz,xs,l h2 (by simp),d⟩
 |sub j q lo n=>obtain⟨h1,t,g',fz,xs,h2,d⟩:=f; exact⟨h1,t,g',fz,xs,l h2 (by simp),d⟩
 |omp j=>obtain⟨h1,k,t,es,h2,d⟩:=f; exact⟨h1,k,t,es,l h2 (by simp),d⟩
 |optr j q i off=>obtain⟨h1,t,g',fz,xs,h2,d⟩:=f; exact⟨h1,t,g',fz,xs,l h2 (by simp),d⟩
 |box j off =>
  obtain⟨c,b,h1,h2,d⟩:=f;refine⟨c,b,?_,h2,d⟩;rw[Ù _ (fun e=>by simp[nr0,e] at y)]; exact h1
 |_=>exact f
def Xc (i:lkB h id=.cells cs) (b:ν id=.pointer (some ⟨b0,0,none⟩)) {a:AV} {v:Value} (d:nr1 id a=true) (f:@VR1 g ν h w a v):@VR1 (g.re (amU g b0) D Q M) ν (Đ h id .dead) w a v:=by
 cases e:a.isFn with
 |true =>
  cases a<;>try cases e
  obtain⟨fs,c,h1,h2,j⟩:=f;simp only[nr1,cW,dC] at d;exact⟨fs,c,h1,h2.memR fun a ha _=>Xd i b (d.1 a ha),j.memR fun a ha _=>Xd i b (d.2 a ha)⟩
 |false =>
  rw[@zd (g.re _ _ _ _) _ _ _ _ _ e];rw[@zd g _ _ _ _ _ e] at f;refine Xd i b ?_ f
  cases a<;>first|exact d|cases e
def aes (f:lkB h id=.cells cs) (b:ν id=.pointer (some ⟨b0,0,none⟩)) {a:AV} {v:Value} (e:nr2 id a=true) (d:@VR2 g ν h w a v):@VR2 (g.re (amU g b0) D Q M) ν (Đ h id .dead) w a v:=by
 cases c:a.isAgg with
 |true =>
  cases a<;>try cases c
  obtain⟨vs,h1,h2⟩:=d;simp only[nr2,dC] at e;exact⟨vs,h1,h2.memR fun a ha _ i=>⟨Xc f b (e a ha) i.1,i.2⟩⟩
 |false =>
  rw[@BU (g.re _ _ _ _) _ _ _ _ _ c];rw[@BU g _ _ _ _ _ c] at d;refine Xc f b ?_ d
  cases a<;>first|exact e|cases c
def an5 (f:lkB h id=.cells cs) (b:ν id=.pointer (some ⟨b0,0,none⟩)) {a:AV} {v:Value} (e:nr3 id a=true) (d:@VR g ν h w a v):@VR (g.re (amU g b0) D Q M) ν (Đ h id .dead) w a v:=by
 cases c:a.isTup with
 |true =>
  cases a<;>try cases c
  obtain⟨vs,h1,h2⟩:=d;simp only[nr3,dC] at e;exact⟨vs,h1,h2.memR fun a ha _=>aes f b (e a ha)⟩
 |false =>
  rw[@zq (g.re _ _ _ _) _ _ _ _ _ c];rw[@zq g _ _ _ _ _ c] at d;refine aes f b ?_ d
  cases a<;>first|exact e|cases c
def an6 (G:lkB h id=.cells cs) (l:ν id=.pointer (some ⟨b0,0,none⟩)) (L:(Đ h id .dead).all (nrB id)=true) (H:@HR g ν h w):@HR (g.re (amU g b0) D Q M) ν (Đ h id .dead) w:=by
 have sub:=ajf (D:=D) (Q:=Q) (M:=M) (g:=g) G l;have I:id<h.length:=lq G (by simp)
 have K:∀{j},(lkB (Đ h id .dead) j).live=true->j≠id/\(lkB h j).live=true:=fun {j} d=>by
  rw[yn] at d
  split at d
  ·cases d
  ·rename_i N;exact⟨fun e=>N ⟨e,I⟩,d⟩
 have O:∃c e,w.heap[b0]?=some (.cells c e (0,0)):=by
  have:=@HR.blk g _ _ _ H id;rw[G] at this;obtain⟨b,c,e,C,E,_⟩:=this;rw[l] at C; cases C;exact⟨c,e,E⟩
 refine @HR.mk (g.re (amU g b0) D Q M) _ _ _ (fun j=>?_) (fun i j b hi d=>@HR.inj g _ _ _ H i j b (K hi).2 (K d).2) (fun k y=>?_) (fun j k d hb y=>?_)
 ·by_cases d:j=id
  ·rw[d,ñ _ I]; trivial
  ·have n:=aiE rfl _ L j;rw[Ù _ d] at n ⊢;have u:=@HR.blk g _ _ _ H j
   cases s:lkB h j with
   |dead=>trivial
   |cells c =>
    rw[s] at u n;obtain⟨b,c,e,h1,h2,A⟩:=u;simp only[nrB,dC] at n;exact⟨b,c,e,h1,h2,A.memR fun a ha _ R=>⟨Xc G l (n a ha) R.1,R.2⟩⟩
   |row t g' fz xs =>
    rw[s] at u
    cases fz with
    |true=>exact CR.mono sub u
    |false =>
     obtain⟨base,cap,h1,h2,A⟩:=u;refine⟨base,cap,h1,h2,A.imp (fun z=>z) fun⟨b,off,c,e,J,W,V,U⟩=>⟨b,off,c,e,J,W,V,fun i x F=>?_⟩⟩;obtain⟨us,C,E⟩:=U i x F;exact⟨us,CR.mono sub C,E⟩
   |map k v es =>
    rw[s] at u;obtain⟨b,f,B,h1,h2,A,J⟩:=u;refine⟨b,f,B,h1,h2,A,fun i x F=>?_⟩;obtain⟨m,us,C,E,T,S⟩:=J i x F;exact⟨m,us,C,CR.mono sub E,CR.mono sub T,S⟩
   |acc t xs =>
    rw[s] at u;obtain⟨us,h1,h2,A,J⟩:=u;exact⟨us,h1,h2,A,g.st _ _ _ _ _ _ J ⟨rfl,rfl,rfl,cX _,fun b _ N F=>N (sub b F),fun b o hb _ _=>hb,fun b o hb _ _=>hb⟩⟩
 ·rcases y with y|rfl
  ·exact @HR.ghlt g _ _ _ H k y
  ·obtain⟨c,e,q⟩:=O;exact ħ q
 ·obtain⟨h1,h2⟩:=K d;rcases y with y|rfl
  ·exact @HR.ghne g _ _ _ H j k h2 hb y
  ·exact h1 (@HR.inj g _ _ _ H j id k h2 (by rw[G]; rfl) hb (by rw[l]; rfl))
end
section
variable {g:Ghost} {G1:Nat->Prop} {D D1:CK Deferred} {Q Q1:BY Nat} {M M1:Nat} {ν:Nat->Value} {h:CK Blk} {w:World} {id b0:Nat} {cs:CK AV}
def aka {P:Blk->Prop} (hd:lkB h id=.dead) {j:Nat} {B:Blk} (b:lkB h j=B) (c:B≠.dead) (C:Blk) (V:Value):lkB (Đ h id C) j=B/\ď ν id V j=ν j:=by
 letI:Ghost:=Gh fun _=>False
 have:j≠id:=fun e=>by rw[e,hd] at b; exact c b.symm
 exact⟨by rw[Ù _ this]; exact b,ľ _ _ this⟩
def akb (l:id<h.length) (m:∀b,g.G b->G1 b) (f:G1 b0) (k:Nat) (d:@Av (g.re g.G D Q M) (ď ν id (.pointer (some ⟨b0,0,none⟩))) (Đ h id (.cells cs)) k):@Av (g.re G1 D1 Q1 M1) ν h k:=by
 rcases d with⟨j,i,c⟩|d
 ·by_cases e:j=id
  ·rw[e,Ý] at c; cases c; exact .inr f
  ·rw[Ù _ e] at i; rw[ľ _ _ e] at c; exact .inl ⟨j,i,c⟩
 ·exact .inr (m k d)
def Xr (hd:lkB h id=.dead) (s:id<h.length) (z:∀b,g.G b->G1 b) (u:G1 b0) {a:AV} {v:Value} (e:@VR0 (g.re G1 D1 Q1 M1) ν h w a v):@VR0 (g.re g.G D Q M) (ď ν id (.pointer (some ⟨b0,0,none⟩))) (Đ h id (.cells cs)) w a v:=by
 have sub:=akb (D:=D) (Q:=Q) (M:=M) (D1:=D1) (Q1:=Q1) (M1:=M1) (ν:=ν) (cs:=cs) s z u;have l:∀{j:Nat} {B:Blk},lkB h j=B->B≠.dead->lkB (Đ h id (.cells cs)) j=B:=fun {j B} m y=>(aka (P:=fun _=>True) (ν:=ν) hd m y _ .nilFunc).1;have f:∀{j:Nat} {B:Blk},lkB h j=B->B≠.dead->ď ν id (.pointer (some ⟨b0,0,none⟩)) j=ν j:=fun {j B} m y=>(aka (P:=fun _=>True) (ν:=ν) hd m y (.cells cs) _).2
 cases a with
 |slc t xs=>exact CR.mono sub e
 |mp k t es=>exact CR.mono sub e
 |eptr t x off =>
  obtain⟨b,o,us,h1,h2,d,C,A⟩:=e;exact⟨b,o,us,h1,fun q=>h2 (sub b q),d,CR.mono sub C,A⟩
 |own j q=>obtain⟨h1,t,g',fz,xs,h2,d⟩:=e; exact⟨h1,t,g',fz,xs,l h2 (by simp),by rw[f h2 (by simp)]; exact d⟩
 |sub j q lo n=>obtain⟨h1,t,g',fz,xs,h2,d⟩:=e; exact⟨h1,t,g',fz,xs,l h2 (by simp),by rw[f h2 (by simp)]; exact d⟩
 |omp j=>obtain⟨h1,k,t,es,h2,d⟩:=e; exact⟨h1,k,t,es,l h2 (by simp),by rw[f h2 (by simp)]; exact d⟩
 |optr j q i off=>obtain⟨h1,t,g',fz,xs,h2,d⟩:=e; exact⟨h1,t,g',fz,xs,l h2 (by simp),by rw[f h2 (by simp)]; exact d⟩
 |box j off=>obtain⟨c,b,h1,h2,d⟩:=e; exact⟨c,b,l h1 (by simp),by rw[f h1 (by simp)]; exact h2,d⟩
 |_=>exact e
def Xq (hd:lkB h id=.dead) (d:id<h.length) (j:∀b,g.G b->G1 b) (e:G1 b0) {a:AV} {v:Value} (f:@VR1 (g.re G1 D1 Q1 M1) ν h w a v):@VR1 (g.re g.G D Q M) (ď ν id (.pointer (some ⟨b0,0,none⟩))) (Đ h id (.cells cs)) w a v:=by
 cases i:a.isFn with
 |true =>
  cases a<;>try cases i
  obtain⟨fs,c,h1,h2,k⟩:=f;exact⟨fs,c,h1,h2.mono fun _ _=>Xr hd d j e,k.mono fun _ _=>Xr hd d j e⟩
 |false =>
  rw[@zd (g.re _ _ _ _) _ _ _ _ _ i];rw[@zd (g.re G1 _ _ _) _ _ _ _ _ i] at f;exact Xr hd d j e f
def aeJ (hd:lkB h id=.dead) (c:id<h.length) (j:∀b,g.G b->G1 b) (d:G1 b0) {a:AV} {v:Value} (e:@VR2 (g.re G1 D1 Q1 M1) ν h w a v):@VR2 (g.re g.G D Q M) (ď ν id (.pointer (some ⟨b0,0,none⟩))) (Đ h id (.cells cs)) w a v:=by
 cases f:a.isAgg with
 |true =>
  cases a<;>try cases f
  obtain⟨vs,h1,h2⟩:=e;exact⟨vs,h1,h2.mono fun _ _ i=>⟨Xq hd c j d i.1,i.2⟩⟩
 |false =>
  rw[@BU (g.re _ _ _ _) _ _ _ _ _ f];rw[@BU (g.re G1 _ _ _) _ _ _ _ _ f] at e;exact Xq hd c j d e
def aoi (hd:lkB h id=.dead) (c:id<h.length) (i:∀b,g.G b->G1 b) (d:G1 b0) {a:AV} {v:Value} (e:@VR (g.re G1 D1 Q1 M1) ν h w a v):@VR (g.re g.G D Q M) (ď ν id (.pointer (some ⟨b0,0,none⟩))) (Đ h id (.cells cs)) w a v:=by
 cases f:a.isTup with
 |true =>
  cases a<;>try cases f
  obtain⟨vs,h1,h2⟩:=e;exact⟨vs,h1,h2.mono fun _ _=>aeJ hd c i d⟩
 |false =>
  rw[@zq (g.re _ _ _ _) _ _ _ _ _ f];rw[@zq (g.re G1 _ _ _) _ _ _ _ _ f] at e;exact aeJ hd c i d e
def aoj (hd:lkB h id=.dead) (B:id<h.length) (S:∀b,g.G b->G1 b) (C:G1 b0) (U:¬g.G b0) {c:Array Value} {e:TypeId} (Z:w.heap[b0]?=some (.cells c e (0,0)))
 (hc:ĕ (@VRc (g.re g.G D Q M) (ď ν id (.pointer (some ⟨b0,0,none⟩))) (Đ h id (.cells cs)) w) cs c.toList) (H:@HR (g.re G1 D1 Q1 M1) ν h w):@HR (g.re g.G D Q M) (ď ν id (.pointer (some ⟨b0,0,none⟩))) (Đ h id (.cells cs)) w:=by
 have sub:=akb (D:=D) (Q:=Q) (M:=M) (D1:=D1) (Q1:=Q1) (M1:=M1) (ν:=ν) (cs:=cs) B S C
 have T:∀{j b},(lkB (Đ h id (.cells cs)) j).live=true->ř (ď ν id (.pointer (some ⟨b0,0,none⟩)) j) b->(j=id/\b=b0)\/(j≠id/\(lkB h j).live=true/\ř (ν j) b):=fun {j b} s R=>by
  by_cases q:j=id
  ·rw[q,Ý] at R; cases R; exact .inl ⟨q,rfl⟩
  ·rw[Ù _ q] at s; rw[ľ _ _ q] at R; exact .inr ⟨q,s,R⟩
 refine @HR.mk (g.re g.G D Q M) _ _ _ (fun j=>?_) (fun i j b hi s W V=>?_) (fun k K=>@HR.ghlt (g.re G1 D1 Q1 M1) _ _ _ H k (S k K)) (fun j k s hb K=>?_)
 ·by_cases s:j=id
  ·rw[s,ñ _ B];exact⟨b0,c,e,Ý _ _ _,Z,hc⟩
  ·rw[Ù _ s];have y:=@HR.blk (g.re G1 D1 Q1 M1) _ _ _ H j;have d:=ľ ν (.pointer (some ⟨b0,0,none⟩)) s
   cases u:lkB h j with
   |dead=>trivial
   |cells c2 =>
    rw[u] at y;obtain⟨b,c3,e3,h1,h2,E⟩:=y;exact⟨b,c3,e3,d.trans h1,h2,E.mono fun _ _ Y=>⟨Xq hd B S C Y.1,Y.2⟩⟩
   |row t g' fz xs =>
    rw[u] at y
    cases fz with
    |true =>
     show CR w _ _ _ [ď ν id _ j];rw[d]; exact CR.mono sub y
    |false =>
     obtain⟨base,cap,h1,h2,E⟩:=y;refine⟨base,cap,d.trans h1,h2,E.imp (fun z=>z) fun⟨b,off,c,e,L,h5,h6,h7⟩=>⟨b,off,c,e,L,h5,h6,fun i x I=>?_⟩⟩;obtain⟨us,n,f⟩:=h7 i x I;exact⟨us,CR.mono sub n,f⟩
   |map k v es =>
    rw[u] at y;obtain⟨b,l,F,h1,h2,E,L⟩:=y;refine⟨b,l,F,d.trans h1,h2,E,fun i x I=>?_⟩;obtain⟨m,us,n,f,A,O⟩:=L i x I;exact⟨m,us,n,CR.mono sub f,CR.mono sub A,O⟩
   |acc t xs =>
    rw[u] at y;obtain⟨us,h1,h2,E,L⟩:=y;refine⟨us,d.trans h1,by rw[d]; exact h2,E,?_⟩;rw[d];exact g.st _ _ _ _ _ _ L ⟨rfl,rfl,rfl,cX _,fun b _ hn I=>hn (sub b I),fun b o hb _ _=>hb,fun b o hb _ _=>hb⟩
 ·have J:∀{j b},(lkB h j).live=true->ř (ν j) b->b≠b0:=fun {j b} n f A=>@HR.ghne (g.re G1 D1 Q1 M1) _ _ _ H j b n f (by rw[A]; exact C)
  rcases T hi W with⟨n,f⟩|⟨n,f,A⟩<;>rcases T s V with⟨O,N⟩|⟨O,N,X⟩
  ·rw[n,O]
  ·exact absurd f (J N X)
  ·exact absurd N (J f A)
  ·exact @HR.inj (g.re G1 D1 Q1 M1) _ _ _ H i j b f N A X
 ·rcases T s hb with⟨n,f⟩|⟨n,f,A⟩
  ·rw[f] at K; exact U K
  ·exact @HR.ghne (g.re G1 D1 Q1 M1) _ _ _ H j k f A (S k K)
end
def st0 (pin:Nat):AV->Bool
 |.any=>true
 |.und=>true
 |.bool _=>true
 |.int _ _=>true
 |.str _=>true
 |.nils=>true
 |.slc _ _=>true
 |.nilm=>true
 |.mp _ _ _=>true
 |.nilp=>true
 |.nilfn=>true
 |.yld=>true
 |.box id _=>Nat.blt id pin
 |_=>false
def st3 (pin:Nat):AV->Bool
 |.fn _ a b=>a.all (st0 pin)&&b.all (st0 pin)
 |a=>st0 pin a
section
variable [Ghost] {ν ν':Nat->Value} {h h':CK Blk} {w w':World} {pin:Nat}
def VR0.stab (e:Ev pin ν h w ν' h' w') {a:AV} {v:Value} (c:st0 pin a=true) (d:VR0 ν h w a v):VR0 ν' h' w' a v:=by
 cases a with
 |box id off =>
  obtain⟨cs,b,l,h1,h2⟩:=d;have f:id<pin:=eW c;have hb:=e.blk id f;rw[l] at hb;obtain⟨⟨j,i⟩,m⟩:=hb;exact⟨j,b,i,by rw[m]; exact h1,h2⟩
 |slc t xs=>exact CR.keep e.keepA d
 |mp k t es=>exact CR.keep e.keepA d
 |own=>cases c
 |sub=>cases c
 |omp=>cases c
 |optr=>cases c
 |eptr=>cases c
 |fn=>cases c
 |agg=>cases c
 |tup=>cases c
 |_=>exact d
def VR.stab (e:Ev pin ν h w ν' h' w') {a:AV} {v:Value} (c:st3 pin a=true) (b:VR ν h w a v):VR ν' h' w' a v:=by
 cases a with
 |fn f fa fb =>
  obtain⟨fs,cs,h1,h2,d⟩:=b;simp only[st3,cW,dC] at c;exact⟨fs,cs,h1,h2.memR fun a ha _=>VR0.stab e (c.1 a ha),d.memR fun a ha _=>VR0.stab e (c.2 a ha)⟩
 |agg=>cases c
 |tup=>cases c
 |any=>trivial
 |und=>exact b
 |bool=>exact b
 |int=>exact b
 |str=>exact b
 |nils=>exact b
 |nilm=>exact b
 |nilp=>exact b
 |nilfn=>exact b
 |yld=>exact b
 |box id off=>exact VR0.stab (a:=.box id off) e c b
 |slc t xs=>exact VR0.stab (a:=.slc t xs) e rfl b
 |mp k t es=>exact VR0.stab (a:=.mp k t es) e rfl b
 |own=>cases c
 |sub=>cases c
 |omp=>cases c
 |optr=>cases c
 |eptr=>cases c
def an2 {t:Ty} (c:t.isAgg=false) {x:Val t} {u:Value} (b:CR w (Av ν h) t x [u]):VR ν h w (enc t x) u:=by
 have d:flat t x=[enc t x]:=by cases t<;>first|rfl|cases c
 have:=nf (ν:=ν) (h:=h) b;rw[d] at this;exact VR1.up this.1.1
end
def Ġ (P:Program) (f:Nat):BY Code :=
 match P.funcs[f]? with
 |some fn=>fn.body
 |none=>none
structure Ja (ρ:Type) where
 path:CK Nat
 fid:Nat
 bid:Nat
 pin:Nat
 cs:CK Ty
 vs:CK Ty
 head:Tpl
 it:am5
 bF:Val (tyL cs)->Val (tyL vs)->Val it.et->(Val (tyL vs)->BY ρ)->BY ρ
section
variable {ρ:Type}
def Dh (E:Env ρ) (call:CK Nat->Bool->Nat->CK AV->CK Blk->(AV->CK Blk->BY ρ)->BY ρ) (fid:Nat) (path:CK Nat) (pin bid:Nat) (it:LI) (S:St) (y:AV) (c:St->BY ρ):BY ρ :=
 match it with
 |.rf _ ps a b=>match ps.toList with
  |[p]=>goC E call fid path pin bid a {t:=upd S.t p y,h:=S.h} fun e S=>match e with
   |.normal=>goC E call fid path pin bid b S fun e S=>match e with
    |.normal=>c S
    |_=>none
   |_=>none
  |_=>none
 |_=>none
def Ja.back (x:Ja ρ) (b:Val (tyL x.cs)->Val (tyL x.vs)->BY ρ) (S:St):BY ρ:=match yT x.head x.pin x.cs x.vs S with
 |some (p,v)=>b p v
 |none=>none
structure Ja.Ok (E:Env ρ) (x:Ja ρ):Prop where
 one:(((Ġ E.P x.fid).elim [] (ß 0)).filter fun y=>Nat.beq y.1 x.bid).length=1
 it:lS E.P x.it
 tm:∀p v v',(û x.head x.cs x.vs p v').t=(û x.head x.cs x.vs p v).t
 stab:∀p v,(û x.head x.cs x.vs p v).t.all (st3 x.pin)=true
 law:∀p v y (kn:Val (tyL x.cs)->Val (tyL x.vs)->BY ρ),Dh E (ŧ E (10-x.path.length / 2)) x.fid x.path x.pin x.bid (nM (Ġ E.P x.fid) x.bid) (û x.head x.cs x.vs p v) (enc x.it.et y) (x.back kn)=x.bF p v y (kn p)
def rngK (x:Ja ρ) (m:Nat) (g:AV) (S:St) (K:Exit->St->BY ρ):BY ρ :=
 match Nat.ble m x.pin with
 |true=>match g with
  |.fn (.func c) [] [.box id 0]=>match Nat.beq c x.it.clo with
   |true=>match lkB S.h id with
    |.cells cs=>match cs.all (fun a=>!FQ a)&&(Đ S.h id .dead).all (nrB id) with
     |true=>match Ü x.it.ct cs with
      |some d=>match yT x.head x.pin x.cs x.vs {t:=S.t.map (clr id),h:=Đ S.h id .dead} with
       |some (p,v)=>Å (x.it.F d) fun xs=>Bu (x.bF p) xs v fun v=>K .normal (bif Nat.blt id x.pin then {t:=(û x.head x.cs x.vs p v).t,h:=Đ (û x.head x.cs x.vs p v).h id (.cells (flat x.it.ct d))} else û x.head x.cs x.vs p v)
       |none=>none
      |none=>none
     |false=>none
    |_=>none
   |false=>none
  |_=>none
 |false=>none
structure RJ (g:Ghost) (x:Ja ρ) (ν:Nat->Value) (h:CK Blk) (p:Val (tyL x.cs)) (xs:CK (Val x.it.et)) (Kf:Val (tyL x.vs)->BY ρ) (r:ρ) (ν1:Nat->Value) (h1:CK Blk) (a:Act) (t1:CK AV) (W1:World) (O X:Nat->Prop) (pre:CK (Val x.it.et)) (W:World):Prop where
 os:W.os=W1.os
 tape:W.tape=W1.tape
 output:W.output=W1.output
 size:W1.heap.size<=W.heap.size
 nd:∀(k:Nat) (o:Obj),W1.heap[k]?=some o->TI o=false->W.heap[k]?=some o
 ex:∃(ν':Nat->Value) (v':Val (tyL x.vs)) (suf:CK (Val x.it.et)),xs=pre++suf/\Bu (x.bF p) suf v' Kf=some r/\(∀k,O k↔FT ν' (û x.head x.cs x.vs p v').h k) /\
  @HR (g.re (fun k=>X k/\¬O k/\k<W.heap.size) [] none 0) ν' (û x.head x.cs x.vs p v').h W /\
  (∀i,@VR (g.re (fun k=>X k/\¬O k/\k<W.heap.size) [] none 0) ν' (û x.head x.cs x.vs p v').h W (lk t1 i) (a.tmps.getD i undef)) /\
  (∀b,b<W1.heap.size->¬FT ν h b->¬FT ν' (û x.head x.cs x.vs p v').h b) /\
  (∀id,id<x.pin->(lkB h1 id).next ν1 ν' id (lkB (û x.head x.cs x.vs p v').h id))/\Dd x.pin h1 (û x.head x.cs x.vs p v').h
section
variable {g:Ghost} {x:Ja ρ} {ν:Nat->Value} {h:CK Blk} {p:Val (tyL x.cs)} {xs:CK (Val x.it.et)} {Kf:Val (tyL x.vs)->BY ρ} {r:ρ} {ν1:Nat->Value} {h1:CK Blk} {a:Act} {t1:CK AV} {W1:World}
def RJ.st (q:g.B<=W1.heap.size) {O X t:Nat->Prop} {d:CK (Val x.it.et)} {W j:World} (H:RJ g x ν h p xs Kf r ν1 h1 a t1 W1 O X d W) (S:StepJ W1.heap.size O X W t j):RJ g x ν h p xs Kf r ν1 h1 a t1 W1 O t d j:=by
 obtain⟨T,R,N,L,K,ν',e,l,I,G,m,F,E,C,A,z⟩:=H;have av:∀b,@Av (g.re (fun k=>X k/\¬O k/\k<W.heap.size) [] none 0) ν' (û x.head x.cs x.vs p e).h b↔FT ν' (û x.head x.cs x.vs p e).h b\/(X b/\¬O b/\b<W.heap.size):=fun b=>Iff.rfl
 have y:nF (g.re (fun k=>X k/\¬O k/\k<W.heap.size) [] none 0) ν' (û x.head x.cs x.vs p e).h W (fun k=>t k/\¬O k/\k<j.heap.size) j:=by
  refine⟨S.os,S.tape,S.output,S.size,fun b hb u f=>?_,fun b o hb c f=>?_,fun b o hb c n=>S.nd b o hb c (dr n q)⟩
  ·rw[av] at u;exact S.av b hb (fun s=>u (.inr ⟨s,f.2.1,hb⟩)) f.1
  ·refine S.dat b o hb c fun s=>?_;rcases Classical.em (O b) with h'|h'
   ·exact h'
   ·exact(m b).2 (f ((av b).2 (.inr ⟨s,h',ħ hb⟩)))
 refine⟨S.os.trans T,S.tape.trans R,S.output.trans N,du L S.size,fun k o v c=>S.nd k o (K k o v c) c (ħ v),ν',e,l,I,G,m,?_,fun i=>?_,C,A,z⟩
 ·exact HR.step (g:=g.re (fun k=>X k/\¬O k/\k<W.heap.size) [] none 0) (D:=[]) (Q:=none) (M:=0) y (fun b hb=>hb.2.2) (fun b J hb=>hb.2.1 ((m b).2 J)) F
 ·exact VR.step (g:=g.re (fun k=>X k/\¬O k/\k<W.heap.size) [] none 0) (D:=[]) (Q:=none) (M:=0) y (E i)
def atP {x:Ja ρ} (p:Val (tyL x.cs)) (k:Val (tyL x.vs)->BY ρ) (b:Val (tyL x.cs)) (v:Val (tyL x.vs)):BY ρ:=open Classical in if b=p then k v else none
def ami {x:Ja ρ} (p:Val (tyL x.cs)) (k:Val (tyL x.vs)->BY ρ):atP p k p=k:=by
 funext v; unfold atP; rw[if_pos rfl]
def amh {x:Ja ρ} {p b:Val (tyL x.cs)} {k:Val (tyL x.vs)->BY ρ} {v:Val (tyL x.vs)} {r:ρ} (h:atP p k b v=some r):b=p/\k v=some r:=by
 unfold atP at h
 split at h
 ·exact⟨‹_›,h⟩
 ·cases h
def aiU (ν:Nat->Value) (h:CK Blk):∃us:Array Value,∀b,ř (.agg us) b↔FT ν h b:=by
 have key:∀n,∃l:CK Value,∀b,(∃u∈l,aaL u=some b)↔∃id,id<n/\(lkB h id).live=true/\ř (ν id) b:=by
  intro n
  induction n with
  |zero=>exact⟨[],fun b=>⟨fun⟨u,d,_⟩=>(by cases d),fun⟨_,hi,_⟩=>(by omega)⟩⟩
  |succ n t =>
   obtain⟨l,j⟩:=t
   obtain⟨m,s⟩:∃m:CK Value,∀b,(∃u∈m,aaL u=some b)↔((lkB h n).live=true/\ř (ν n) b):=by
    cases v:(lkB h n).live with
    |false=>exact⟨[],fun b=>⟨fun⟨u,d,_⟩=>(by cases d),fun⟨q,_⟩=>(by cases q)⟩⟩
    |true =>
     cases y:ν n with
     |agg vs=>exact⟨vs.toList,fun b=>⟨fun q=>⟨rfl,q⟩,fun q=>q.2⟩⟩
     |pointer a=>exact⟨[.pointer a],fun b=>⟨fun⟨u,d,q⟩=>⟨rfl,by rw[dh.1 d] at q; exact q⟩,fun q=>⟨_,.head _,q.2⟩⟩⟩
     |slice a k c=>exact⟨[.slice a k c],fun b=>⟨fun⟨u,d,q⟩=>⟨rfl,by rw[dh.1 d] at q; exact q⟩,fun q=>⟨_,.head _,q.2⟩⟩⟩
     |map r=>exact⟨[.map r],fun b=>⟨fun⟨u,d,q⟩=>⟨rfl,by rw[dh.1 d] at q; exact q⟩,fun q=>⟨_,.head _,q.2⟩⟩⟩
     |_=>exact⟨[],fun b=>⟨fun⟨u,d,_⟩=>(by cases d),fun q=>q.2.elim⟩⟩
   refine⟨l++m,fun b=>⟨fun⟨u,d,q⟩=>?_,fun⟨i,hi,e,f⟩=>?_⟩⟩
   ·rcases de.1 d with d|d
    ·obtain⟨i,hi,e⟩:=(j b).1 ⟨u,d,q⟩;exact⟨i,by omega,e⟩
    ·exact⟨n,by omega,(s b).1 ⟨u,d,q⟩⟩
   ·rcases gY.1 hi with h1|rfl
    ·obtain⟨u,d,q⟩:=(j b).2 ⟨i,h1,e,f⟩;exact⟨u,dR _ d,q⟩
    ·obtain⟨u,d,q⟩:=(s b).2 ⟨e,f⟩;exact⟨u,dN _ d,q⟩
 obtain⟨l,j⟩:=key h.length;refine⟨l.toArray,fun b=>⟨fun q=>?_,fun⟨id,e,f⟩=>?_⟩⟩
 ·obtain⟨id,_,e,f⟩:=(j b).1 (by simpa using q);exact⟨id,e,f⟩
 ·have o:id<h.length:=by
   rcases dl id h.length with h'|h'
   ·exact h'
   ·letI:Ghost:=Gh fun _=>False
    rw[Z3 _ _ h'] at e; cases e
  simpa using(j b).2 ⟨id,o,e,f⟩
def oU {w:World} {l:Nat} {o':Obj} {c:Loop} (d:w.heap[l]?=some (.loop c)) (b:Nat) (o:Obj) (hb:w.heap[b]?=some o) (hd:TI o=true\/b≠l):(w.putObj l o').heap[b]?=some o:=by
 have:b≠l:=fun e=>by
  subst e;rcases hd with hd|hd
  ·rw[d] at hb; cases hb; cases hd
  ·exact hd rfl
 rw[World.putObj_heap_other this]; exact hb
def RJ.round {E:Env ρ} {N:Nat} {call:CK Nat->Bool->Nat->CK AV->CK Blk->(AV->CK Blk->BY ρ)->BY ρ} (hEnv:∀[Ghost],lR E->nH E N call) (hDraw:∀[Ghost],nH E N call->xp E N call) (K:x.path.length+2=N) (hy:@lR g ρ E)
 {gop:Operand} {ps:Array Tmp} {A Bd:Code} {p0:Tmp} (hps:ps.toList=[p0]) (hL:∀[Ghost],lR E->∀z∈ß x.bid A++ß x.bid Bd,uZ E x.path x.fid z.1 z.2)
 (hag:x.it.et.isAgg=false) (htm:∀p v v',(û x.head x.cs x.vs p v').t=(û x.head x.cs x.vs p v).t) (hst:∀p v,(û x.head x.cs x.vs p v).t.all (st3 x.pin)=true)
 (hlen:∀v,x.pin<=(û x.head x.cs x.vs p v).h.length)
 (law:∀p v y (kn:Val (tyL x.cs)->Val (tyL x.vs)->BY ρ),Dh E call x.fid x.path x.pin x.bid (.rf gop ps A Bd) (û x.head x.cs x.vs p v) (enc x.it.et y) (fun S=>match yT x.head x.pin x.cs x.vs S with
  |some (p,v)=>kn p v
  |none=>none)=x.bF p v y (kn p))
 {C:FuncId} {dn:Nat} {l:Nat} (hl1:W1.heap[l]?=some (.loop {state:=.ready,pending:=none,fn:=C,tmps:=a.tmps,params:=ps,assign:=A,body:=Bd,defers:=dn})) (hgl:g.B<=l) (hgB:g.B<=W1.heap.size) (ht1:∃v,t1=(û x.head x.cs x.vs p v).t) (htl:t1.length<=a.tmps.size)
 {O X:Nat->Prop} {pre:CK (Val x.it.et)} {y:Val x.it.et} {u:Value} {W:World} (H:RJ g x ν h p xs Kf r ν1 h1 a t1 W1 O X pre W) (hOX:∀b,O b->X b) (hXs:∀b,X b->b<W.heap.size) (hpre:pre++[y] <+: xs) (hcr:CR W X x.it.et y [u]) :
 YieldAt Fence.wide 0 E.P l #[u] W fun e W'=>e=.returned (.bool true)/\W'.os=W.os/\W'.tape=W.tape/\W'.output=W.output/\W.heap.size<=W'.heap.size /\
  ∃us,(∀b,b<W.heap.size->¬O b->W'.heap[b]?=W.heap[b]?/\¬ř (.agg us) b)/\(∀b,ř (.agg us) b->∃o,W'.heap[b]?=some o/\TI o=true)/\RJ g x ν h p xs Kf r ν1 h1 a t1 W1 (ř (.agg us)) (fun b=>(X b/\¬O b)\/ř (.agg us) b) (pre++[y]) W':=by
 obtain⟨e1,e2,e3,e4,e5,ν',v',suf,q1,q2,q3,q4,q5,q6,q7,q8⟩:=H
 -- what is yielded is what comes next
 obtain⟨m,rfl⟩:∃m,suf=y::m:=by
  obtain⟨s,hs⟩:=hpre;rw[q1,dg] at hs;exact⟨s,(List.append_cancel_left hs).symm⟩
 have hl:W.heap[l]?=_:=e5 l _ hl1 rfl;obtain⟨GX,hGX⟩:∃GX:Nat->Prop,GX=fun k=>X k/\¬O k/\k<W.heap.size:=⟨_,rfl⟩;rw[<-hGX] at q4 q5
 letI gr:Ghost:=g.re GX [] (some l) W.heap.size
 have hyr:lR E:=hy;have hE:=hEnv hyr;have hD:=hDraw hE;obtain⟨S,hS⟩:∃S,S=û x.head x.cs x.vs p v':=⟨_,rfl⟩
 have hSt:S.t=t1:=by obtain⟨v0,h0⟩:=ht1; rw[hS,h0]; exact htm p v0 v'
 have hlen':x.pin<=S.h.length:=by rw[hS]; exact hlen v'
 rw[<-hS] at q3 q4 q5 q6 q7 q8;have H0:HR ν' S.h W:=HR.re (g:=g.re GX [] none 0) q4
 have V0:∀i,VR ν' S.h W (lk S.t i) (a.tmps.getD i undef):=fun i=>by rw[hSt]; exact q5 i
 have avX:∀b,Av ν' S.h b->X b:=fun b hb=>by
  rcases hb with hb|hb
  ·exact hOX b ((q3 b).2 hb)
  ·have hb:GX b:=hb;rw[hGX] at hb; exact hb.1
 have hu:VR ν' S.h W (enc x.it.et y) u:=an2 hag (CR.mono avX hcr);have fr0:∀(W2:World) (r2:Loop),W2.heap[l]?=some (.loop r2)->W.heap.size<=W2.heap.size->Fr W2 []:=fun W2 r2 h2 h3=>⟨⟨[],rfl,gG,fun _ q=>(by cases q)⟩,fun l' e=>by cases e; exact⟨r2,h2⟩,du hgB e4,h3⟩
 have sim0:Sim ν' {t:=upd S.t p0 (enc x.it.et y),h:=S.h} {tmps:=a.tmps.setIfInBounds p0 u,defers:=[]} W:=by
  have s0:Sim ν' S {tmps:=a.tmps,defers:=[]} W:=⟨fr0 W _ hl (cX _),by rw[hSt]; exact htl,V0,H0⟩;exact s0.put (Ev.refl _ _ _ _) H0 (some p0) hu
 -- the law
 have n:=law p v' y (atP p fun v=>Bu (x.bF p) m v Kf);rw[ami,show x.bF p v' y (fun v=>Bu (x.bF p) m v Kf)=some r from q2,<-hS] at n;unfold Dh at n;simp only[hps] at n;have hLr:∀z∈ß x.bid A++ß x.bid Bd,uZ E x.path x.fid z.1 z.2:=hL hyr;have hgo:=J3 hE K A x.bid _ _ ν' _ W (fun _=>hD) (fun z hz=>hLr z (List.mem_append_left _ hz)) n sim0 hlen'
 have htm0:((ps.zip #[u]).foldl (fun t (p,v)=>t.setIfInBounds p v) a.tmps)=a.tmps.setIfInBounds p0 u:=by
  have:ps=#[p0]:=by rw[<-eN,hps]
  rw[this]; simp
 refine ⟨_, _, _, _, run_yield hl (by have : ps = #[p0] := by (rw [<- eN, hps])
                                      rw[this]; rfl),?_⟩
 rw[htm0];refine roundIn_of_wpIn (F:=Fence.wide) trivial (wpIn_mono (show A.wpIn (Fence.wide.inRound l) 0 E.P _ _ W from hgo) fun e aA WA hA=>?_);obtain⟨V,SA,sA,f,lnA,ddA,kA⟩:=hA
 cases e with
 |normal =>
  simp only at kA;have R:WA.heap[l]?=some (.loop _):=H0.nd f l _ hl rfl;refine⟨_,run_beginRound R rfl,?_⟩;have d:nF gr V SA.h WA gr.G (WA.putObj l (.loop {state:=.busy,pending:=none,fn:=C,tmps:=a.tmps,params:=ps,assign:=A,body:=Bd,defers:=dn})):=nF.nds rfl rfl rfl (by simp) fun b o hb hd=>oU R b o hb (hd.imp id fun hlt=>by have:b<g.B:=hlt; omega);obtain⟨Wb,hWb⟩:∃Wb,Wb=WA.putObj l (.loop {state:=.busy,pending:=none,fn:=C,tmps:=a.tmps,params:=ps,assign:=A,body:=Bd,defers:=dn}):=⟨_,rfl⟩;rw[<-hWb] at d ⊢
  have hlb:Wb.heap[l]?=some (.loop {state:=.busy,pending:=none,fn:=C,tmps:=a.tmps,params:=ps,assign:=A,body:=Bd,defers:=dn}):=by rw[hWb]; exact World.putObj_heap_same (ħ R)
  have sB:Sim V SA aA Wb:=by
   refine⟨?_,sA.len,fun i=>VR.step (g:=gr) (D:=[]) (Q:=some l) (M:=W.heap.size) d (sA.tmps i),HR.step (g:=gr) (D:=[]) (Q:=some l) (M:=W.heap.size) d (fun b hb=>dr (sA.heap.ghlt b hb) d.size) (fun b ⟨i,hi,hb⟩=>sA.heap.ghne i b hi hb) sA.heap⟩;obtain⟨⟨ms,m1,m2,m3⟩,_,m4,m5⟩:=sA.defers;refine⟨⟨ms,m1,m2,fun k hk=>⟨?_,(m3 k hk).2⟩⟩,fun l' e=>by cases e; exact⟨_,hlb⟩,m4,du m5 d.size⟩;rw[hWb];exact oU R k _ (m3 k hk).1 (.inr fun e=>by have hk0:=(m3 k hk).1; rw[e,R] at hk0; cases hk0)
  have hgo2:=J3 hE K Bd x.bid _ _ V _ Wb (fun _=>hD) (fun z hz=>hLr z (dN _ hz)) kA sB lnA;refine wpIn_mono (show Bd.wpIn (Fence.wide.inRound l) 0 E.P _ _ Wb from hgo2) fun e aC WC hC=>?_;obtain⟨νC,SC,sC,j,lnC,ddC,J⟩:=hC
  cases e with
  |normal =>
   simp only at J
   split at J<;>try (cases J; done)
   rename_i p' Y hm;obtain⟨hp',J⟩:=amh J;subst hp';obtain⟨U,sD,evD,lnD,ddD⟩:=MC _ _ _ _ _ _ _ νC aC WC hm sC;have L:WC.heap[l]?=some (.loop _):=sB.heap.nd j l _ hlb rfl;have hrun:=run_endRound (P:=E.P) none L;obtain⟨I,c⟩:∃I,I=WC.putObj l (.loop {state:=.ready,pending:=none,fn:=C,tmps:=a.tmps,params:=ps,assign:=A,body:=Bd,defers:=dn}):=⟨_,rfl⟩;refine⟨_,I,by rw[c]; exact hrun,rfl,?_⟩;have hWs:W.heap.size<=WC.heap.size:=du f.size (du d.size j.size)
   have s4:I.heap.size=WC.heap.size:=by rw[c]; simp
   have h4l:I.heap[l]?=some (.loop {state:=.ready,pending:=none,fn:=C,tmps:=a.tmps,params:=ps,assign:=A,body:=Bd,defers:=dn}):=by rw[c]; exact World.putObj_heap_same (ħ L)
   have h4o:∀b,b≠l->I.heap[b]?=WC.heap[b]?:=fun b hb=>by rw[c]; exact World.putObj_heap_other hb
   have hbo:∀b,b≠l->Wb.heap[b]?=WA.heap[b]?:=fun b hb=>by rw[hWb]; exact World.putObj_heap_other hb
   have T:∀b,b<W.heap.size->¬FT ν' S.h b->I.heap[b]?=W.heap[b]?/\¬FT U (û x.head x.cs x.vs p' Y).h b:=fun b hb hn=>by
    obtain⟨k1,k2⟩:=f.keep b hb hn;obtain⟨k3,k4⟩:=j.keep b (dr hb (du f.size d.size)) k2;obtain⟨k5,k6⟩:=evD.keep b (dr hb hWs) k4;refine⟨?_,k6⟩
    by_cases hbl:b=l
    ·rw[hbl,h4l,hl]
    ·rw[h4o b hbl,k3,hbo b hbl,k1]
   obtain⟨us,Z⟩:=aiU U (û x.head x.cs x.vs p' Y).h
   have o4:I.os=W.os/\I.tape=W.tape/\I.output=W.output:=by
    rw[c];exact⟨j.os.trans (d.os.trans f.os),j.tape.trans (d.tape.trans f.tape),j.output.trans (d.output.trans f.output)⟩
   have KG4:nF gr U (û x.head x.cs x.vs p' Y).h WC (fun k=>((X k/\¬O k)\/ř (.agg us) k)/\¬ř (.agg us) k/\k<I.heap.size) I:=by
    refine⟨by rw[c]; rfl,by rw[c]; rfl,by rw[c]; rfl,gT s4.symm,fun b hb hn hx=>?_,fun b o hb ho _=>?_,fun b o hb ho hlt=>?_⟩
    ·obtain⟨hx1,hx2,_⟩:=hx;obtain⟨hx3,hx4⟩:=hx1.resolve_right hx2;refine hn (.inr ?_);show GX b;rw[hGX]; exact⟨hx3,hx4,hXs b hx3⟩
    ·rw[c]; exact oU L b o hb (.inl ho)
    ·rw[c]; exact oU L b o hb (.inr fun e=>by have:b<g.B:=hlt; omega)
   refine⟨o4.1,o4.2.1,o4.2.2,by rw[s4]; exact hWs,us,fun b hb hn=>?_,fun b hb=>?_,?_⟩
   ·obtain⟨k1,k2⟩:=T b hb fun hL=>hn ((q3 b).2 hL);exact⟨k1,fun q=>k2 ((Z b).1 q)⟩
   ·obtain⟨o,k1,k2⟩:=sD.heap.dat ((Z b).1 hb);exact⟨o,by rw[c]; exact oU L b o k1 (.inl k2),k2⟩
   ·refine⟨o4.1.trans e1,o4.2.1.trans e2,o4.2.2.trans e3,du e4 (by rw[s4]; exact hWs),fun k o hk ho=>?_,U,Y,m,by rw[q1,dg]; rfl,J,Z,?_,fun i=>?_,fun b hb hn=>?_,fun id hid=>?_,?_⟩
    ·by_cases hkl:k=l
     ·rw[hkl] at hk ⊢;rw[h4l,<-hl1,hk]
     ·rw[h4o k hkl];have k1:=H0.nd f k o (e5 k o hk ho) ho;have k2:Wb.heap[k]?=some o:=(hbo k hkl).trans k1;exact sB.heap.nd j k o k2 ho
    ·exact HR.step (g:=gr) (D:=[]) (Q:=none) (M:=0) KG4 (fun b hb=>hb.2.2) (fun b hl hb=>hb.2.1 ((Z b).2 hl)) sD.heap
    ·have hs3:st3 x.pin (lk t1 i)=true:=by
      rw[<-hSt,hS];exact amP rfl _ (hst p' v') i
     have v1:VR ν' S.h W (lk t1 i) (a.tmps.getD i undef):=by rw[<-hSt]; exact V0 i
     have v2:=VR.stab f hs3 v1;have v3:VR V SA.h Wb (lk t1 i) (a.tmps.getD i undef):=VR.step (g:=gr) (D:=[]) (Q:=some l) (M:=W.heap.size) d v2;have v4:=VR.stab evD hs3 (VR.stab j hs3 v3);exact VR.step (g:=gr) (D:=[]) (Q:=none) (M:=0) KG4 v4
    ·exact(T b (dr hb e4) (q6 b hb hn)).2
    ·exact Blk.next_trans (Blk.next_trans (Blk.next_trans (q7 id hid) (f.blk id hid)) (j.blk id hid)) (evD.blk id hid)
    ·exact((q8.trans ddA (cX _)).trans ddC (cX _)).trans ddD (cX _)
  |exit id=>cases J
  |goto l=>cases J
  |ret=>cases J
  |panic ch=>cases J
  |outgrown=>cases J
 |exit id=>cases kA
 |goto l=>cases kA
 |ret=>cases kA
 |panic ch=>cases kA
 |outgrown=>cases kA
def Z9 (T:Tpl) (cs vs:CK Ty) (p:Val (tyL cs)) (v:Val (tyL vs)):(û T cs vs p v).h.length=T.heap.length:=by
 letI:Ghost:=Gh fun _=>False
 unfold û;exact Bs _ _
def ahu {E:Env ρ} {N:Nat} {call:CK Nat->Bool->Nat->CK AV->CK Blk->(AV->CK Blk->BY ρ)->BY ρ} (hEnv:∀[Ghost],lR E->nH E N call) (hDraw:∀[Ghost],nH E N call->xp E N call) (hpath:x.path.length+2=N) (hy:@lR g ρ E)
 {gop:Operand} {ps:Array Tmp} {A Bd:Code} (hL:∀[Ghost],lR E->∀z∈ß x.bid A++ß x.bid Bd,uZ E x.path x.fid z.1 z.2)
 (hit:lS E.P x.it) (htm:∀p v v',(û x.head x.cs x.vs p v').t=(û x.head x.cs x.vs p v).t) (hst:∀p v,(û x.head x.cs x.vs p v).t.all (st3 x.pin)=true)
 (law:∀p v y (kn:Val (tyL x.cs)->Val (tyL x.vs)->BY ρ),Dh E call x.fid x.path x.pin x.bid (.rf gop ps A Bd) (û x.head x.cs x.vs p v) (enc x.it.et y) (fun S=>match yT x.head x.pin x.cs x.vs S with
  |some (p,v)=>kn p v
  |none=>none)=x.bF p v y (kn p)) (hps:∃p0,ps.toList=[p0])
 (hplain : ∀ (f : Nat) (fn : Func), E.P.funcs[f]? = some fn -> (fn.name == "runtime.NumGoroutine") = false)
 {m:Nat} {S:St} {K:Exit->St->BY ρ} {r:ρ} {ν:Nat->Value} {a:Act} {w:World} (e:rngK x m (ev S.t gop) S K=some r) (H:@Sim g ν S a w) (hm:m<=S.h.length) :
 (Code.rangeFunc gop ps A Bd).wpIn (@fen g) 0 E.P (@acI g ρ m ν S.h w K r) a w:=by
 obtain⟨p0,hps⟩:=hps;unfold rngK at e
 split at e<;>try (cases e; done)
 rename_i hmp;have hmp:m<=x.pin:=eW hmp
 split at e<;>try (cases e; done)
 rename_i c id hg
 split at e<;>try (cases e; done)
 rename_i hcm;obtain rfl:=dq hcm
 split at e<;>try (cases e; done)
 rename_i cs hl
 split at e<;>try (cases e; done)
 rename_i hchk;simp only[cW] at hchk;obtain⟨hown,hnr⟩:=hchk
 split at e<;>try (cases e; done)
 rename_i d hd
 split at e<;>try (cases e; done)
 rename_i p v hmt;simp only[Å] at e
 split at e<;>try (cases e; done)
 rename_i xs hxs
 -- the iterator
 have hH:=@Sim.heap g _ _ _ _ H;have hbid:=@HR.blk g _ _ _ hH id;rw[hl] at hbid;obtain⟨b0,cb,te,hν,hb0,hcells⟩:=hbid;have hgv:@VR g ν S.h w (ev S.t gop) (a.eval gop):=@ŏ g _ _ _ _ H gop;rw[hg] at hgv;obtain⟨fs,cps,hge,hfs,hcps⟩:=hgv
 have hfs0:fs=#[]:=by rw[<-eN]; exact hfs.nil_left
 obtain⟨uc,hu1,hu2⟩:=hcps.one
 have huc:uc=.pointer (some ⟨b0,0,none⟩):=by
  obtain⟨_,b',_,q1,q2⟩:=hu2;rw[hν] at q1; cases q1; exact q2
 have hcps0:cps=#[.pointer (some ⟨b0,0,none⟩)]:=by rw[<-eN,hu1,huc]
 rw[hfs0,hcps0] at hge
 -- the box is let go
 obtain⟨h0,hh0⟩:∃h0,h0=Đ S.h id .dead:=⟨_,rfl⟩;have hid:id<S.h.length:=lq hl (by simp)
 letI g1:Ghost:=g.re (amU g b0) g.D g.Q g.M
 have H1:HR ν h0 w:=by rw[hh0]; exact an6 hl hν hnr hH
 have sim1:Sim ν {t:=S.t.map (clr id),h:=h0} a w:=by
  refine⟨@Sim.defers g _ _ _ _ H,by rw[List.length_map]; exact @Sim.len g _ _ _ _ H,fun i=>?_,H1⟩;show VR ν h0 w (lk (S.t.map (clr id)) i) _;rw[amO rfl,hh0];unfold clr
  split
  ·exact an5 hl hν ‹_› (@Sim.tmps g _ _ _ _ H i)
  ·trivial
 rw[<-hh0] at hmt;obtain⟨ν1,sim2,ev1,hp1,dd1⟩:=MC _ _ _ _ _ _ _ ν a w hmt sim1;obtain⟨S1,hS1⟩:∃S1,S1=û x.head x.cs x.vs p v:=⟨_,rfl⟩;rw[<-hS1] at sim2 ev1 hp1 dd1
 have hlen:∀v,x.pin<=(û x.head x.cs x.vs p v).h.length:=fun v'=>by rw[Z9,<-Z9 x.head x.cs x.vs p v,<-hS1]; exact hp1
 have L01:∀b,FT ν1 S1.h b->FT ν h0 b:=fun b hb=>Classical.byContradiction fun hn=>(ev1.keep b (sim2.heap.lt hb) hn).2 hb
 have L0:∀b,FT ν h0 b->FT ν S.h b/\b≠b0:=fun b ⟨j,hj,ho⟩=>by
  rw[hh0,yn] at hj
  split at hj
  ·cases hj
  ·rename_i hne;refine⟨⟨j,hj,ho⟩,fun eb=>hne ⟨?_,hid⟩⟩;exact @HR.inj g _ _ _ hH j id b hj (by rw[hl]; rfl) ho (by rw[hν,eb]; rfl)
 have hb0L:FT ν S.h b0:=⟨id,by rw[hl]; rfl,by rw[hν]; rfl⟩
 -- what is known of the frame
 have hfr:=@Sim.defers g _ _ _ _ H;have hgBw:g.B<=w.heap.size:=du hfr.2.2.1 hfr.2.2.2;refine wpIn_rangeFunc ?_;intro fn hfn
 -- the record
 obtain⟨l,marks,dn,W1,henter,hl1,hlw,hW1s,hW1o,hW1d,hmarks⟩:∃(l:Nat) (marks:CK Nat) (dn:Nat) (W1:World),(Instr.enterLoop fn a.tmps ps A Bd (@fen g).round).run E.P w=.ok (l,marks.map mk1) W1 /\
  W1.heap[l]?=some (.loop {state:=.ready,pending:=none,fn:=fn,tmps:=a.tmps,params:=ps,assign:=A,body:=Bd,defers:=dn})/\w.heap.size<=l/\w.heap.size<=W1.heap.size/\(W1.os=w.os/\W1.tape=w.tape/\W1.output=w.output)/\(∀b,b<w.heap.size->W1.heap[b]?=w.heap[b]?) /\
  (marks.Nodup/\∀k∈marks,W1.heap[k]?=some (.deferred (some []))/\w.heap.size<=k):=by
  have hro:(@fen g).round=g.Q:=rfl;rw[hro]
  cases hQ:g.Q with
  |none =>
   refine⟨w.heap.size+1,[w.heap.size],w.heap.size,_,run_enterLoop_outer _ _ _ _ _,?_,by omega,by simp; omega,⟨rfl,rfl,rfl⟩,fun b hb=>?_,by simp,fun k hk=>?_⟩
   ·have:=World.alloc_heap_new (w.alloc (.deferred (some []))) (.loop {state:=.ready,pending:=none,fn:=fn,tmps:=a.tmps,params:=ps,assign:=A,body:=Bd,defers:=w.heap.size})
    rwa [World.size_alloc] at this
   ·rw[RowKit.Below.heap_alloc _ _ _ (by simp; omega),RowKit.Below.heap_alloc _ _ _ hb]
   ·rw[dh.1 hk];exact⟨(RowKit.Below.heap_alloc _ _ _ (by simp)).trans (World.alloc_heap_new w _),cX _⟩
  |some l0 =>
   obtain⟨r0,hr0⟩:=hfr.2.1 l0 hQ;refine⟨w.heap.size,[],r0.defers,_,run_enterLoop_inner hr0 _ _ _ _ _,World.alloc_heap_new _ _,cX _,by simp,⟨rfl,rfl,rfl⟩,fun b hb=>RowKit.Below.heap_alloc _ _ _ hb,gG,fun k hk=>by cases hk⟩
 obtain⟨hmn,hmk⟩:=hmarks;have hlW1:l<W1.heap.size:=ħ hl1;have hold:∀(b:Nat) (o:Obj),w.heap[b]?=some o->W1.heap[b]?=some o:=fun b o hb=>(hW1d b (ħ hb)).trans hb
 -- what the loop's body gets
 obtain⟨us0,hus0⟩:=aiU ν1 S1.h;obtain⟨Kf,hKf⟩:∃Kf:Val (tyL x.vs)->BY ρ,Kf=fun v=>K .normal (bif Nat.blt id x.pin then {t:=(û x.head x.cs x.vs p v).t,h:=Đ (û x.head x.cs x.vs p v).h id (.cells (flat x.it.ct d))} else û x.head x.cs x.vs p v):=⟨_,rfl⟩;rw[<-hKf] at e;have htl:S1.t.length<=a.tmps.size:=sim2.len
 letI gp:Ghost:=⟨g.G,[],none,W1.heap.size,l,W1.heap.size,x.it.et,RJ g x ν S.h p xs Kf r ν1 S1.h a S1.t W1,fun O X X' pre W W' hJ hS=>RJ.st (du hgBw hW1s) hJ hS⟩
 have hgl:g.B<=l:=du hgBw hlw;have hgB1:g.B<=W1.heap.size:=du hgBw hW1s;have hyp:@YldP gp E.P ⟨x.it.et,xs⟩:=⟨rfl,fun O X pre y u W hJ hOX hXs hpre hcr hB=>RJ.round hEnv hDraw hpath hy hps hL hit.agg htm hst hlen law hl1 hgl hgB1 ⟨v,by rw[hS1]⟩ htl hJ hOX hXs hpre hcr⟩
 -- the iterator's state
 obtain⟨νp,hνp⟩:∃νp:Nat->Value,νp=fun n=>if n=0 then .agg us0 else if n=1 then .pointer (some ⟨b0,0,none⟩) else undef:=⟨_,rfl⟩
 have n0:νp 0=.agg us0:=by rw[hνp]; rfl
 have n1:νp 1=.pointer (some ⟨b0,0,none⟩):=by rw[hνp]; rfl
 have Lp:∀k,FT νp (iB x.it d) k->ř (.agg us0) k\/k=b0:=by
  rintro k ⟨i,hi,ho⟩
  match i,hi,ho with
  |0,_,ho=>rw[n0] at ho; exact .inl ho
  |1,_,ho=>rw[n1] at ho; cases ho; exact .inr rfl
  |i+2,hi,_=>cases hi
 have OL:∀k,ř (.agg us0) k->FT ν S.h k/\k≠b0:=fun k hk=>L0 k (L01 k ((hus0 k).1 hk))
 have Avp:∀k,@Av gp νp (iB x.it d) k->@Av g ν S.h k:=fun k hk=>by
  rcases hk with hk|hk
  ·rcases Lp k hk with hk|rfl
   ·exact .inl (OL k hk).1
   ·exact .inl hb0L
  ·exact .inr hk
 have hcr0:CR w (@Av g ν S.h) x.it.ct d cb.toList:=Ĥ hd (ĕ.mono (fun _ _ hx=>@VR1.data g _ _ _ _ _ hx.1) hcells);have hcr1:CR W1 (@Av gp νp (iB x.it d)) x.it.ct d cb.toList:=CR.kx ⟨hW1s,fun b _ hn hx=>hn (Avp b hx),fun b o hb _ _=>hold b o hb⟩ hcr0
 have hJ0:RJ g x ν S.h p xs Kf r ν1 S1.h a S1.t W1 (ř (νp 0)) (@Av gp νp (iB x.it d)) [] W1:=by
  have KG:nF g1 ν1 S1.h w (fun k=>@Av gp νp (iB x.it d) k/\¬ř (νp 0) k/\k<W1.heap.size) W1:=by
   refine⟨hW1o.1,hW1o.2.1,hW1o.2.2,hW1s,fun b hb hn hx=>?_,fun b o hb _ _=>hold b o hb,fun b o hb _ _=>hold b o hb⟩;obtain⟨hx1,hx2,_⟩:=hx;rcases hx1 with hx1|hx1
   ·rcases Lp b hx1 with q|rfl
    ·rw[n0] at hx2; exact hx2 q
    ·exact hn (.inr (.inr rfl))
   ·exact hn (.inr (.inl hx1))
  refine⟨rfl,rfl,rfl,cX _,fun _ _ q _=>q,ν1,v,xs,rfl,e,fun k=>by rw[n0,<-hS1]; exact hus0 k,?_,fun i=>?_,fun b _ hn hL2=>?_,fun i _=>?_,?_⟩
  ·rw[<-hS1];exact HR.step (g:=g1) (D:=[]) (Q:=none) (M:=0) KG (fun b hb=>hb.2.2) (fun b hl2 hb=>hb.2.1 (by rw[n0]; exact(hus0 b).2 hl2)) (@Sim.heap g1 _ _ _ _ sim2)
  ·rw[<-hS1];exact VR.step (g:=g1) (D:=[]) (Q:=none) (M:=0) KG (@Sim.tmps g1 _ _ _ _ sim2 i)
  ·rw[<-hS1] at hL2;exact hn (L0 b (L01 b hL2)).1
  ·rw[<-hS1]; exact Blk.next_refl _ _ _
  ·rw[<-hS1]; exact Dd.refl _ _
 have Hp:@HR gp νp (iB x.it d) W1:=by
  refine @HR.mk gp _ _ _ (fun i=>?_) (fun i j b hi hj hbi hbj=>?_) (fun b hb=>dr (@HR.ghlt g _ _ _ hH b hb) hW1s) (fun i b hi hbi hg=>?_)
  ·match i with
   |0 =>
    refine⟨us0,n0,fun b hb=>?_,rfl,hJ0⟩;rw[n0] at hb;obtain⟨o,q1,q2⟩:=@HR.dat g _ _ _ hH b (OL b hb).1;exact⟨o,hold b o q1,q2⟩
   |1=>exact⟨b0,cb,te,n1,hold _ _ hb0,@nf gp νp (iB x.it d) W1 _ _ _ hcr1⟩
   |i+2=>exact trivial
  ·match i,j,hi,hj,hbi,hbj with
   |0,0,_,_,_,_=>rfl
   |1,1,_,_,_,_=>rfl
   |0,1,_,_,hbi,hbj=>rw[n0] at hbi; rw[n1] at hbj; cases hbj; exact absurd rfl (OL _ hbi).2
   |1,0,_,_,hbi,hbj=>rw[n1] at hbi; rw[n0] at hbj; cases hbi; exact absurd rfl (OL _ hbj).2
   |i+2,_,hi,_,_,_=>cases hi
   |_,j+2,_,hj,_,_=>cases hj
  ·have hg:g.G b:=hg;have key:∀k,FT ν S.h k->¬g.G k:=fun k ⟨j,hj,ho⟩=>@HR.ghne g _ _ _ hH j k hj ho
   match i,hi,hbi with
   |0,_,hbi=>rw[n0] at hbi; exact key b (OL b hbi).1 hg
   |1,_,hbi=>rw[n1] at hbi; cases hbi; exact key _ hb0L hg
   |i+2,hi,_=>cases hi
 have hargs:ĕ (@VR gp νp (iB x.it d) W1) Ck [.func (.yield l) #[] #[],.pointer (some ⟨b0,0,none⟩)]:=⟨rfl,⟨flat x.it.ct d,b0,rfl,n1,rfl⟩,trivial⟩;obtain⟨⟨gfn,gc,hgf,hgc⟩,hcall⟩:=hit.ok gp rfl d xs hxs hyp νp W1 _ (cX _) Hp hargs;refine⟨l,marks.map mk1,W1,{target:=.fn (.func x.it.clo) #[.pointer (some ⟨b0,0,none⟩)],args:=#[.func (.yield l) #[] #[]]},W1,x.it.clo,#[.func (.yield l) #[] #[],.pointer (some ⟨b0,0,none⟩)],W1,henter,?_,fun f' _=>trivial,?_,fun q=>(by cases q),?_⟩
 ·simp only[resolve,rangeCall,hge];simp[go_sem]
 ·simp[invoke,callFunc,Sem.run_bind,run_program,Result.andThen_ok,hgf,hgc,hplain x.it.clo gfn hgf];simpa using hplain x.it.clo gfn hgf
 refine CallsIn.mono (show CallsIn (@fen g) 0 E.P _ _ _ _ from hcall) fun en W2 hw=>?_;obtain⟨νq,hq,u,rfl,Hq,evq,hacc,csq,hcsq,hdq⟩:=hw
 -- what the loop leaves
 have hBq:=@HR.blk gp _ _ _ Hq 0;rw[hacc] at hBq;obtain⟨us2,k1,k2,k3,k4⟩:=hBq;have k4:RJ g x ν S.h p xs Kf r ν1 S1.h a S1.t W1 (ř (νq 0)) (@Av gp νq hq) xs W2:=k4;obtain⟨j1,j2,j3,j4,j5,νe,ve,suf,q1,q2,q3,q4,q5,q6,q7,q8⟩:=k4
 have hsuf:suf=[]:=by
  have:=congrArg List.length q1;rw[cZ] at this;exact dD.1 (by omega)
 rw[hsuf] at q2;have hke:Kf ve=some r:=q2;have hl2:W2.heap[l]?=_:=j5 l _ hl1 rfl;obtain⟨W3,hW3⟩:∃W3,W3=W2.putObj l (.loop {state:=.exhausted,pending:=none,fn:=fn,tmps:=a.tmps,params:=ps,assign:=A,body:=Bd,defers:=dn}):=⟨_,rfl⟩;refine⟨none,W3,by rw[hW3]; exact run_endLoop (P:=E.P) hl2 (by simp),?_⟩;obtain⟨Se,hSe⟩:∃Se,Se=û x.head x.cs x.vs p ve:=⟨_,rfl⟩;rw[<-hSe] at q3 q4 q5 q6 q7 q8
 have s3:W3.heap.size=W2.heap.size:=by rw[hW3]; simp
 have h3o:∀b,b≠l->W3.heap[b]?=W2.heap[b]?:=fun b hb=>by rw[hW3]; exact World.putObj_heap_other hb
 have hG:∀b,g.G b->@Av gp νq hq b/\¬ř (νq 0) b/\b<W2.heap.size:=fun b hb=>⟨.inr hb,fun ho=>@HR.ghne gp _ _ _ Hq 0 b (by rw[hacc]; rfl) ho hb,@HR.ghlt gp _ _ _ Hq b hb⟩;obtain⟨G2,hG2⟩:∃G2:Nat->Prop,G2=fun k=>@Av gp νq hq k/\¬ř (νq 0) k/\k<W2.heap.size:=⟨_,rfl⟩;rw[<-hG2] at q4 q5
 have hGs:∀b,g.G b->G2 b:=fun b hb=>by rw[hG2]; exact hG b hb
 have KG3:nF (g.re G2 [] none 0) νe Se.h W2 G2 W3:=by
  refine⟨by rw[hW3]; rfl,by rw[hW3]; rfl,by rw[hW3]; rfl,gT s3.symm,fun b _ hn hb=>hn (.inr hb),fun b o hb ho _=>?_,fun b o hb ho hlt=>?_⟩
  ·rw[hW3]; exact oU hl2 b o hb (.inl ho)
  ·rw[hW3]; exact oU hl2 b o hb (.inr fun q=>by have:b<g.B:=hlt; omega)
 have H3:@HR (g.re G2 [] none 0) νe Se.h W3:=HR.step (g:=g.re G2 [] none 0) (D:=[]) (Q:=none) (M:=0) KG3 (fun b hb=>by rw[hG2] at hb; have:=hb.2.2; omega) (fun b hb hg=>by rw[hG2] at hg; exact hg.2.1 ((q3 b).2 hb)) q4;have nd3:∀(k:Nat) (o:Obj),W1.heap[k]?=some o->TI o=false->k≠l->W3.heap[k]?=some o:=fun k o hk ho hkl=>(h3o k hkl).trans (j5 k o hk ho)
 have hSt:Se.t=S1.t:=by rw[hSe,hS1]; exact htm p v ve
 have V3:∀i,@VR (g.re G2 [] none 0) νe Se.h W3 (lk Se.t i) (a.tmps.getD i undef):=fun i=>by rw[hSt]; exact VR.step (g:=g.re G2 [] none 0) (D:=[]) (Q:=none) (M:=0) KG3 (q5 i)
 have hfr3:@Fr g W3 (marks.map mk1++a.defers):=by
  obtain⟨⟨ms,m1,m2,m3⟩,m4,m5,m6⟩:=hfr;have lt3:∀k∈ms,k<w.heap.size:=fun k hk=>ħ (m3 k hk).1;refine⟨⟨marks++ms,?_,?_,fun k hk=>?_⟩,fun l' hl'=>?_,m5,by omega⟩
  ·rw[m1,fj,dg]
  ·refine List.nodup_append.2 ⟨hmn,m2,fun k1 h1 k2 h2 q=>?_⟩;have:=(hmk k1 h1).2;have:=lt3 k2 h2;omega
  ·rcases de.1 hk with hk|hk
   ·obtain⟨z1,z2⟩:=hmk k hk;exact⟨nd3 k _ z1 rfl (fun q=>by rw[q,hl1] at z1; cases z1),du m6 z2⟩
   ·exact⟨nd3 k _ (hold _ _ (m3 k hk).1) rfl (fun q=>by have:=lt3 k hk; omega),(m3 k hk).2⟩
  ·obtain⟨r',hr'⟩:=m4 l' hl';exact⟨r',nd3 l' _ (hold _ _ hr') rfl (fun q=>by have:=ħ hr'; omega)⟩
 have ple:x.pin<=Se.h.length:=by rw[hSe]; exact hlen ve
 have blk3:∀i,i<m->i≠id->(lkB S.h i).next ν νe i (lkB Se.h i):=fun i hi hne=>by
  have z1:lkB h0 i=lkB S.h i:=by rw[hh0]; exact Ù _ hne
  have z2:=ev1.blk i (dr hi hmp);rw[z1] at z2;exact Blk.next_trans z2 (q7 i (dr hi hmp))
 have dd3:∀j,j<m->lkB S.h j=.dead->j≠id/\lkB Se.h j=.dead:=fun j hj hd2=>by
  have hne:j≠id:=fun q=>by rw[q,hl] at hd2; cases hd2
  have z1:lkB h0 j=.dead:=by rw[hh0,Ù _ hne]; exact hd2
  exact⟨hne,q8 j (by omega) (dd1 j (by omega) z1)⟩
 have keep3:∀b,b<w.heap.size->¬FT ν S.h b->W3.heap[b]?=w.heap[b]?:=fun b hb hn=>by
  rw[h3o b (by omega),(evq.keep b (by omega) fun hL2=>?_).1,hW1d b hb];rcases Lp b hL2 with q|rfl
  ·exact hn (OL b q).1
  ·exact hn hb0L
 have oss:W3.os=w.os/\W3.tape=w.tape/\W3.output=w.output:=by
  rw[hW3];exact⟨j1.trans hW1o.1,j2.trans hW1o.2.1,j3.trans hW1o.2.2⟩
 have sz3:w.heap.size<=W3.heap.size:=by omega
 rw[hKf] at hke;simp only[<-hSe] at hke
 by_cases hip:id<x.pin
 ·-- the box is there again
  have hbt:Nat.blt id x.pin=true:=Nat.ble_eq_true_of_le hip;rw[hbt] at hke;have hd0:lkB Se.h id=.dead:=q8 id hip (dd1 id hip (by rw[hh0]; exact ñ _ hid));have hidl:id<Se.h.length:=dr hip ple;have hq1:=evq.blk 1 (by omega)
  have hν1:νq 1=.pointer (some ⟨b0,0,none⟩):=by
   have:(lkB (iB x.it d) 1)=.cells (flat x.it.ct d):=rfl;rw[this] at hq1;exact hq1.2.trans n1
  have hq1b:=@HR.blk gp _ _ _ Hq 1;rw[hcsq] at hq1b;obtain⟨b1,c1,e1',z1,z2,z3⟩:=hq1b;rw[hν1] at z1;cases z1
  have lv1:(lkB hq 1).live=true:=by rw[hcsq]; rfl
  have lv0:(lkB hq 0).live=true:=by rw[hacc]; rfl
  have own1:ř (νq 1) b0:=by rw[hν1]; rfl
  have hb02:G2 b0:=by
   rw[hG2];exact⟨.inl ⟨1,lv1,own1⟩,fun q=>absurd (@HR.inj gp _ _ _ Hq 0 1 b0 lv0 lv1 q own1) (by omega),ħ z2⟩
  have hgb:¬g.G b0:=fun q=>@HR.ghne g _ _ _ hH id b0 (by rw[hl]; rfl) (by rw[hν]; rfl) q
  have hlb:b0≠l:=fun q=>by rw[q,hl2] at z2; cases z2
  have hw3:W3.heap[b0]?=some (.cells c1 e1' (0,0)):=(h3o b0 hlb).trans z2;have hcr2:CR W2 (@Av gp νq hq) x.it.ct d c1.toList:=Ĥ hdq (ĕ.mono (fun _ _ hx=>@VR1.data gp _ _ _ _ _ hx.1) z3)
  have hcr3:CR W3 (@Av (g.re g.G g.D g.Q g.M) (ď νe id (.pointer (some ⟨b0,0,none⟩))) (Đ Se.h id (.cells (flat x.it.ct d)))) x.it.ct d c1.toList:=by
   refine CR.kx ⟨gT s3.symm,fun b _ hn hx=>hn ?_,fun b o hb ho _=>by rw[hW3]; exact oU hl2 b o hb (.inl ho)⟩ hcr2;rcases hx with⟨j,hj,ho⟩|hx
   ·by_cases q:j=id
    ·rw[q,Ý] at ho; cases ho; exact .inl ⟨1,lv1,own1⟩
    ·rw[Ù _ q] at hj; rw[ľ _ _ q] at ho;exact .inl ⟨0,lv0,(q3 b).2 ⟨j,hj,ho⟩⟩
   ·exact .inr hx
  have hrE:=aoj (g:=g) (D:=g.D) (Q:=g.Q) (M:=g.M) hd0 hidl hGs hb02 hgb hw3 (@nf (g.re g.G g.D g.Q g.M) _ _ _ _ _ _ hcr3) H3;refine⟨_,_,@Sim.mk g _ _ _ _ hfr3 (by show Se.t.length<=_; rw[hSt]; exact htl) (fun i=>aoi (g:=g) (D:=g.D) (Q:=g.Q) (M:=g.M) hd0 hidl hGs hb02 (V3 i)) (HR.er hrE),⟨oss.1,oss.2.1,oss.2.2,sz3,fun b hb hn=>⟨keep3 b hb hn,?_⟩,fun i hi=>?_⟩,?_,fun j hj hd2=>?_,hke⟩
  ·rintro⟨j,hj,ho⟩
   by_cases q:j=id
   ·rw[q,Ý] at ho; cases ho; exact hn hb0L
   ·have hj:(lkB (Đ Se.h id (.cells (flat x.it.ct d))) j).live=true:=hj;rw[Ù _ q] at hj; rw[ľ _ _ q] at ho;exact q6 b (by omega) hn ⟨j,hj,ho⟩
  ·show(lkB S.h i).next ν _ i (lkB (Đ Se.h id (.cells (flat x.it.ct d))) i)
   by_cases q:i=id
   ·subst q;rw[ñ _ hidl,hl];exact⟨⟨_,rfl⟩,by rw[Ý,hν]⟩
   ·rw[Ù _ q];have z:=blk3 i hi q;have e:=ľ νe (.pointer (some ⟨b0,0,none⟩)) q;revert z
    cases lkB S.h i<;>intro z
    ·trivial
    ·exact⟨z.1,e.trans z.2⟩
    ·obtain⟨g',fz,xs',y1,y2,y3⟩:=z;exact⟨g',fz,xs',y1,y2,fun y4=>⟨e.trans (y3 y4).1,(y3 y4).2⟩⟩
    ·exact⟨z.1,e.trans z.2⟩
    ·exact z
  ·show m<=(Đ Se.h id (.cells (flat x.it.ct d))).length;rw[á]; omega
  ·obtain⟨hne,hde⟩:=dd3 j hj hd2;show lkB (Đ Se.h id (.cells (flat x.it.ct d))) j=.dead;rw[Ù _ hne]; exact hde
 ·have hbt:Nat.blt id x.pin=false:=by
   cases hq:Nat.blt id x.pin with
   |false=>rfl
   |true=>exact absurd (eW hq) hip
  rw[hbt] at hke;have KGl:nF (g.re G2 [] none 0) νe Se.h W3 g.G W3:=nF.less hGs;refine⟨νe,Se,@Sim.mk g _ _ _ _ hfr3 (by rw[hSt]; exact htl) (fun i=>VR.step (g:=g.re G2 [] none 0) (D:=g.D) (Q:=g.Q) (M:=g.M) KGl (V3 i)) (HR.step (g:=g.re G2 [] none 0) (D:=g.D) (Q:=g.Q) (M:=g.M) KGl (fun b hb=>by have:=(hG b hb).2.2; omega) (fun b hb hg=>(hG b hg).2.1 ((q3 b).2 hb)) H3),⟨oss.1,oss.2.1,oss.2.2,sz3,fun b hb hn=>⟨keep3 b hb hn,q6 b (by omega) hn⟩,fun i hi=>blk3 i hi (by omega)⟩,by omega,fun j hj hd2=>(dd3 j hj hd2).2,hke⟩
end
end
end Go.Am
end

noncomputable section
namespace Go.Am
variable [Ghost]
section
variable {ρ:Type} {ν ν':Nat->Value} {h h':CK Blk} {w w':World} {P:Program}
structure õ (ρ:Type) where
 path:CK Nat
 fid:Nat
 bid:Nat
 L:Æ
 bF:Val (tyL L.cs)->Val (tyL L.vs)->(Val (tyL L.vs)->BY ρ)->((i:Nat)->Val (tyL (L.zs i))->BY ρ)->BY ρ
def eqL:CK Nat->CK Nat->Bool
 |[],[]=>true
 |a::l,b::m=>Nat.beq a b&&eqL l m
 |_,_=>false
def ai6 (S:St):CK (õ ρ)->CK Nat->Nat->Nat->BY (õ ρ)
 |[],_,_,_=>none
 |x::l,path,fid,bid=>match Nat.beq x.bid bid&&(Nat.beq x.fid fid&&(eqL x.path path&&fitsS x.L S)) with
  |true=>some x
  |false=>ai6 S l path fid bid
def kO (tab:CK (õ ρ)) (path:CK Nat) (fid bid m:Nat) (S:St) (K:Exit->St->BY ρ):BY ρ :=
 match ai6 S tab path fid bid with
 |some x=>abj x.L x.bF m S K
 |none=>none
structure JEnt where
 path:CK Nat
 fid:Nat
 rid:Nat
 pin:Nat
 tpl:Tpl
 vs:CK Ty
def findJ:CK JEnt->CK Nat->Nat->Nat->BY JEnt
 |[],_,_,_=>none
 |x::l,path,fid,rid=>match Nat.beq x.rid rid&&(Nat.beq x.fid fid&&eqL x.path path) with
  |true=>some x
  |false=>findJ l path fid rid
def WI (js:CK JEnt) (path:CK Nat) (fid rid m:Nat):BY (((St->BY ρ)->BY ρ)->(St->BY ρ)->BY ρ) :=
 match findJ js path fid rid with
 |some x=>match Nat.ble m x.pin with
  |true=>some fun b rest=>aiM (α:=Val (tyL x.vs)) (fun c=>b fun S=>match yT x.tpl x.pin [] x.vs S with
   |some (_,v)=>c v
   |none=>none) (fun v=>rest (û x.tpl [] x.vs () v))
  |false=>none
 |none=>none
def aiL {E:Env ρ} {js:CK JEnt} (h:E.joins=WI js):aaY E:=by
 intro path fid rid m J e;rw[h] at e;unfold WI at e
 split at e<;>try (cases e; done)
 rename_i x k
 split at e<;>try (cases e; done)
 rename_i b;have b:m<=x.pin:=eW b;refine⟨fun S=>match yT x.tpl x.pin [] x.vs S with|some (_,v)=>some (û x.tpl [] x.vs () v)|none=>none,?_,?_⟩
 ·intro S o ν a w e H l;simp only at e
  split at e<;>try (cases e; done)
  rename_i p v c;cases e;obtain⟨ν',h1,h2,i,f⟩:=MC _ _ _ _ _ _ _ ν a w c H;exact⟨ν',h1,h2.mono b,du b i,fun j n hd=>f j (by omega) hd⟩
 ·intro d rest;cases e;simp only[aiM];congr 1;funext S
  split<;>simp_all
def ab6:CK (Nat×ú)->Nat->BY ú
 |[],_=>none
 |x::l,f=>match Nat.beq x.1 f with
  |true=>some x.2
  |false=>ab6 l f
def WR:CK (Nat×Nat)->Nat->BY Nat
 |[],_=>none
 |x::l,s=>match Nat.beq x.1 s with
  |true=>some x.2
  |false=>WR l s
structure õ.Ok (E:Env ρ) (x:õ ρ):Prop where
 one:(((Ġ E.P x.fid).elim [] (ß 0)).filter fun y=>Nat.beq y.1 x.bid).length=1
 law:∀p v kn kx,goC E (ŧ E (10-x.path.length / 2)) x.fid x.path x.L.pin x.bid (sl (Ġ E.P x.fid) x.bid) (û x.L.head x.L.cs x.L.vs p v) (EG x.L kn kx)=x.bF p v (kn p) (fun i=>kx i p)
omit [Ghost] in
def aer:∀{l m:CK Nat},eqL l m=true->l=m
 |[],[],_=>rfl
 |a::l,b::m,h=>by
  simp only[eqL,cW] at h;rw[dq h.1,aer h.2]
 |[],_::_,h=>by cases h
 |_::_,[],h=>by cases h
omit [Ghost] in
def UO:∀{tab:CK (õ ρ)} {path:CK Nat} {fid bid:Nat} {S:St} {x:õ ρ},ai6 S tab path fid bid=some x->x∈tab/\x.path=path/\x.fid=fid/\x.bid=bid
 |[],_,_,_,_,_,h=>by cases h
 |y::tab,path,fid,bid,S,x,h=>by
  unfold ai6 at h
  split at h
  ·rename_i hb;simp only[cW] at hb;cases h;exact⟨by simp,aer hb.2.2.1,dq hb.2.1,dq hb.1⟩
  ·obtain⟨h1,h2⟩:=UO h;exact⟨by simp[h1],h2⟩
omit [Ghost] in
def UN:∀{tab:CK (Nat×ú)} {f:Nat} {p:ú},ab6 tab f=some p->(f,p)∈tab
 |[],_,_,h=>by cases h
 |y::tab,f,p,h=>by
  unfold ab6 at h
  split at h
  ·rename_i hb;cases h;rw[<-dq hb]; simp
  ·exact dS _ (UN h)
omit [Ghost] in
def Ź:∀(c:Code) (b0:Nat) {bid:Nat} {b:LI},(bid,b)∈ß b0 c->∀y∈b.loops bid,y∈ß b0 c
 |.seq c d,b0,bid,b,h,y,e=>by
  simp only[ß,de] at h ⊢;exact h.imp (fun h=>Ź c b0 h y e) (fun h=>Ź d b0 h y e)
 |.cond _ c d,b0,bid,b,h,y,e=>by
  simp only[ß,de] at h ⊢;exact h.imp (fun h=>Ź c b0 h y e) (fun h=>Ź d b0 h y e)
 |.block id c,b0,bid,b,h,y,e=>by
  simp only[ß] at h ⊢;exact Ź c id h y e
 |.loop c,b0,bid,b,h,y,e=>by
  simp only[ß,df,Prod.mk.injEq] at h ⊢;rcases h with⟨rfl,rfl⟩|h
  ·exact .inr e
  ·exact .inr (Ź c b0 h y e)
 |.skip,_,_,_,h,_,_=>by cases h
 |.region ..,_,_,_,h,_,_=>by cases h
 |.exit _,_,_,_,h,_,_=>by cases h
 |.ret,_,_,_,h,_,_=>by cases h
 |.label _,_,_,_,h,_,_=>by cases h
 |.goto _,_,_,_,h,_,_=>by cases h
 |.rangeFunc g ps c d,b0,bid,b,h,y,e=>by
  simp only[ß,df,de,Prod.mk.injEq] at h ⊢;rcases h with⟨rfl,rfl⟩|h|h
  ·exact .inr (de.1 e)
  ·exact .inr (.inl (Ź c b0 h y e))
  ·exact .inr (.inr (Ź d b0 h y e))
 |.scope c,b0,bid,b,h,y,e=>by
  simp only[ß] at h ⊢;exact Ź c b0 h y e
 |.refuse _,_,_,_,h,_,_=>by cases h
def LI.sz:LI->Nat
 |.lp b=>SizeOf.sizeOf b
 |.rf _ _ a b=>SizeOf.sizeOf a+SizeOf.sizeOf b
omit [Ghost] in
def ŋ:∀(c:Code) (b0:Nat) {bid:Nat} {b:LI},(bid,b)∈ß b0 c->b.sz<SizeOf.sizeOf c
 |.seq c d,b0,bid,b,h=>by
  simp only[ß,de] at h;rcases h with h|h
  ·have:=ŋ c b0 h; simp; omega
  ·have:=ŋ d b0 h; simp; omega
 |.cond _ c d,b0,bid,b,h=>by
  simp only[ß,de] at h;rcases h with h|h
  ·have:=ŋ c b0 h; simp; omega
  ·have:=ŋ d b0 h; simp; omega
 |.block id c,b0,bid,b,h=>by
  have:=ŋ c id h; simp; omega
 |.loop c,b0,bid,b,h=>by
  simp only[ß,df,Prod.mk.injEq] at h;rcases h with⟨rfl,rfl⟩|h
  ·simp[LI.sz]
  ·have:=ŋ c b0 h; simp; omega
 |.skip,_,_,_,h=>by cases h
 |.region ..,_,_,_,h=>by cases h
 |.exit _,_,_,_,h=>by cases h
 |.ret,_,_,_,h=>by cases h
 |.label _,_,_,_,h=>by cases h
 |.goto _,_,_,_,h=>by cases h
 |.rangeFunc g ps c d,b0,bid,b,h=>by
  simp only[ß,df,de,Prod.mk.injEq] at h;rcases h with⟨rfl,rfl⟩|h|h
  ·simp[LI.sz]; omega
  ·have:=ŋ c b0 h; simp; omega
  ·have:=ŋ d b0 h; simp; omega
 |.scope c,b0,bid,b,h=>by
  have:=ŋ c b0 h; simp; omega
 |.refuse _,_,_,_,h=>by cases h
def aeX (E:Env ρ) (n:Nat):Prop:=∀[Ghost],lR E->nH E (22-2*n) (ŧ E n)
def FS (E:Env ρ):Prop:=∀n,n<=10->aeX E n->∀[Ghost],lR E->∀(path:CK Nat) (f:Nat) (fn:Func) (c:Code),path.length+2=22-2*n->E.P.funcs[f]?=some fn->fn.body=some c->∀x∈ß 0 c,uZ E path f x.1 x.2
omit [Ghost] in
def P5 {c:Code} {bid:Nat} {b:LI} (f:((ß 0 c).filter fun y=>Nat.beq y.1 bid).length=1) (l:(bid,b)∈ß 0 c):nM (some c) bid=b:=by
 have d:(bid,b)∈(ß 0 c).filter fun y=>Nat.beq y.1 bid:=List.mem_filter.2 ⟨l,by simp⟩;obtain⟨z,k⟩:=List.length_eq_one_iff.1 f;rw[k,List.mem_singleton] at d;unfold nM;simp only
 cases e:(ß 0 c).find? fun y=>y.1==bid with
 |none =>
  have:=ee.1 e _ l;simp at this
 |some y =>
  have j:=fJ e;have i:=fK e;have:y∈(ß 0 c).filter fun y=>Nat.beq y.1 bid:=dW.2 ⟨j,by simpa using i⟩;rw[k,dh] at this;rw[this,<-d]
def ai5:CK (Ja ρ)->CK Nat->Nat->Nat->BY (Ja ρ)
 |[],_,_,_=>none
 |x::l,path,fid,bid=>match Nat.beq x.bid bid&&(Nat.beq x.fid fid&&eqL x.path path) with
  |true=>some x
  |false=>ai5 l path fid bid
def Ν (tab:CK (Ja ρ)) (path:CK Nat) (fid bid m:Nat) (g:AV) (S:St) (K:Exit->St->BY ρ):BY ρ :=
 match ai5 tab path fid bid with
 |some x=>rngK x m g S K
 |none=>none
omit [Ghost] in
def UM:∀{tab:CK (Ja ρ)} {path:CK Nat} {fid bid:Nat} {x:Ja ρ},ai5 tab path fid bid=some x->x∈tab/\x.path=path/\x.fid=fid/\x.bid=bid
 |[],_,_,_,_,h=>by cases h
 |y::tab,path,fid,bid,x,h=>by
  unfold ai5 at h
  split at h
  ·rename_i hb;simp only[cW] at hb;cases h;exact⟨by simp,aer hb.2.2,dq hb.2.1,dq hb.1⟩
  ·obtain⟨h1,h2⟩:=UM h;exact⟨by simp[h1],h2⟩
def Vi:LI->Bool
 |.rf _ ps _ _=>match ps.toList with
  |[_]=>true
  |_=>false
 |_=>true
omit [Ghost] in
def If {E:Env ρ} (hmix:E.P.follows .mixedOrders=true) {tab:CK (õ ρ)} (V:E.loops=kO tab) (R:∀x∈tab,x.Ok E) {rtab:CK (Ja ρ)} (hR:E.ranges=Ν rtab) (u:∀x∈rtab,x.Ok E) (J:∀x∈rtab,Vi (nM (Ġ E.P x.fid) x.bid)=true):FS E:=by
 intro n hn k g0 l path f fn c hp hf hc
 have s:Ġ E.P f=some c:=by simp only[Ġ,hf,hc]
 have key:∀(N:Nat) (x:Nat×LI),x.2.sz<N->x∈ß 0 c->∀[Ghost],lR E->uZ E path f x.1 x.2:=by
  intro N
  induction N with
  |zero=>intro x h; omega
  |succ N ih =>
   intro⟨bid,b⟩ Y t
   have C:∀y∈b.loops bid,y.2.sz<N:=fun y l=>by
    cases b with
    |lp b=>have:=ŋ b bid (bid:=y.1) (b:=y.2) l; simp only[LI.sz] at Y; omega
    |rf gop ps A Bd =>
     simp only[LI.sz] at Y;rcases de.1 l with l|l
     ·have:=ŋ A bid (bid:=y.1) (b:=y.2) l; omega
     ·have:=ŋ Bd bid (bid:=y.1) (b:=y.2) l; omega
   have B:∀[Ghost],lR E->∀y∈b.loops bid,uZ E path f y.1 y.2:=fun F y l=>ih y (C y l) (Ź c 0 t y l) F;intro g1 o
   cases b with
   |lp b =>
    intro m S K r ν a w e H T;rw[V] at e;unfold kO at e
    cases j:ai6 S tab path f bid with
    |none =>
     rw[j] at e;cases e
    |some x =>
     obtain⟨h1,h2,X,W⟩:=UO j;obtain⟨i,d⟩:=R x h1;subst X W;rw[s] at i d;simp only[Option.elim] at i
     have hb:sl (some c) x.bid=b:=by unfold sl; rw[P5 i t]
     rw[hb] at d
     have hd:10-x.path.length / 2=n:=by rw[h2]; omega
     rw[hd,h2] at d;rw[<-h2] at d;rw[j] at e;exact ali (path:=x.path) MC (k o) (ox hmix _ _ (k o)) (by rw[h2]; omega) (by rw[h2]; exact B o) x.L x.bF (fun p v kn kx=>d p v kn kx) e H T
   |rf gop ps A Bd =>
    intro m S K r ν a w e H T;rw[hR] at e;unfold Ν at e
    cases j:ai5 rtab path f bid with
    |none =>
     rw[j] at e;cases e
    |some x =>
     obtain⟨h1,h2,X,W⟩:=UM j;obtain⟨i,U,G,I,d⟩:=u x h1;have q:=J x h1;subst X W;rw[s] at i d q;simp only[Option.elim] at i;rw[P5 i t] at d q
     have hd:10-x.path.length / 2=n:=by rw[h2]; omega
     rw[hd] at d;rw[j] at e
     have O:∃Z,ps.toList=[Z]:=by
      simp only[Vi] at q
      split at q
      ·exact⟨_,‹_›⟩
      ·cases q
     exact ahu (x:=x) k (fun V=>ox hmix _ _ V) (by rw[h2]; omega) o (fun l z hz=>by rw[h2]; exact B l z hz) U G I d O (k o).plain e H T
 exact fun x t=>key _ x (Nat.lt_succ_self _) t l
omit [Ghost] in
def MG {E:Env ρ} (hmix:E.P.follows .mixedOrders=true) {tab:CK (õ ρ)} (d:E.loops=kO tab) (b:∀x∈tab,x.Ok E) (c:E.ranges=Ν []):FS E :=
 If hmix d b c (fun _ h=>by cases h) (fun _ h=>by cases h)
structure amo where
 path:CK Nat
 fid:Nat
 bid:Nat
 n:Nat
def alD:CK amo->CK Nat->Nat->Nat->BY amo
 |[],_,_,_=>none
 |x::l,path,fid,bid=>match Nat.beq x.bid bid&&(Nat.beq x.fid fid&&eqL x.path path) with
  |true=>some x
  |false=>alD l path fid bid
def ad3 (b:Env ρ) (us:CK amo) (path:CK Nat) (fid bid m:Nat) (S:St) (K:Exit->St->BY ρ):BY ρ :=
 match alD us path fid bid with
 |some u=>Ve (fun S K=>goC b (ŧ b (10-u.path.length / 2)) u.fid u.path m u.bid (sl (Ġ b.P u.fid) u.bid) S K) u.n S K
 |none=>b.loops path fid bid m S K
omit [Ghost] in
def UL:∀{tab:CK amo} {path:CK Nat} {fid bid:Nat} {x:amo},alD tab path fid bid=some x->x∈tab/\x.path=path/\x.fid=fid/\x.bid=bid
 |[],_,_,_,_,h=>by cases h
 |y::tab,path,fid,bid,x,h=>by
  unfold alD at h
  split at h
  ·rename_i hb;simp only[cW] at hb;cases h;exact⟨by simp,aer hb.2.2,dq hb.2.1,dq hb.1⟩
  ·obtain⟨h1,h2⟩:=UL h;exact⟨by simp[h1],h2⟩
def Kv {E:Env ρ} {call:CK Nat->Bool->Nat->CK AV->CK Blk->(AV->CK Blk->BY ρ)->BY ρ} {N:Nat} (C:nH E N call) (F:xp E N call) {fid bid m:Nat} {path:CK Nat} (q:path.length+2=N) {b:Code}
 (y:∀x∈ß bid b,uZ E path fid x.1 x.2) {K:Exit->St->BY ρ} {r:ρ} {o:CK Blk} {k:Nat->Value} {s:World}:∀(n:Nat) (S:St) (ν:Nat->Value) (a:Act) (w:World),Ve (fun S K=>goC E call fid path m bid b S K) n S K=some r->Sim ν S a w->m<=S.h.length->Ev m k o s ν S.h w->Dd m o S.h ->
  Code.roundsIn fen 0 E.P b (acI m k o s K r) n a w
 |0,S,ν,a,w,e,_,_,_,_=>by cases e
 |n+1,S,ν,a,w,e,H,G,ev,dd=>by
  rw[roundsIn_succ];simp only[Ve] at e;refine wpIn_mono (wL C F q b bid S _ ν a w y e H G) fun x z v ha=>?_;obtain⟨c,i,u,A,j,B,t⟩:=ha;have d:=ev.trans A (cX m);have f:=dd.trans B (cX m)
  cases x with
  |normal=>exact Kv C F q y n i c z v t u j d f
  |exit id=>exact⟨c,i,u,d,j,f,t⟩
  |ret=>exact⟨c,i,u,d,j,f,t⟩
  |goto l=>exact⟨c,i,u,d,j,f,t⟩
  |panic ch=>exact⟨c,i,u,d,j,f,t⟩
  |outgrown=>exact⟨c,i,u,d,j,f,t⟩
omit [Ghost] in
def aip {E i:Env ρ} (l:∀[Ghost],lR i->I7 i) (z:i.P=E.P) (B:i.yld=none) (F:E.ranges=Ν []) (hmix:i.P.follows .mixedOrders=true) (t:FS i) {us:CK amo} (I:E.loops=ad3 i us)
 (s:∀u∈us,(((Ġ E.P u.fid).elim [] (ß 0)).filter fun y=>Nat.beq y.1 u.bid).length=1):FS E:=by
 intro n G _ Y _ path f fn c J O R;have j:=sQ l (fun L call I=>ox hmix L call I) t;have q:lR i:=jb B;have k:=j n G q;have o:xp i (22-2*n) (ŧ i n):=ox hmix _ _ k;have v:=t n G (j n G) q path f fn c J (z▸O) R
 have d:Ġ E.P f=some c:=by simp only[Ġ,O,R]
 intro⟨bid,b⟩ C
 cases b with
 |rf gop ps A Bd =>
  intro m S K r ν a w e;rw[F] at e;cases e
 |lp b =>
 intro m S K r ν a w e H N;rw[I] at e;unfold ad3 at e
 split at e
 ·rename_i u X;obtain⟨h1,h2,V,U⟩:=UL X
  have hd:10-u.path.length / 2=n:=by rw[h2]; omega
  have T:=s u h1;rw[V,U,d] at T
  have hb:sl (some c) bid=b:=by unfold sl; rw[P5 T C]
  rw[hd,h2,V,U,z,d,hb] at e;have:=Kv k o J (fun y W=>v y (Ź c 0 C y W)) u.n S ν a w e H N (Ev.refl _ _ _ _) (Dd.refl _ _);rw[z] at this;exact wpIn_loop_rounds u.n this
 ·have:=v (bid,.lp b) C m S K r ν a w e H N
  rwa [z] at this
def VH (H:HR ν h w) {c:AV} {u:Value} (d:VR1 ν h w c u):VRs w Ghost.G (ă h c) u:=F3 H (fun b hb=>.inr hb) d fun id b _ e hb=>H.ghne id b e hb
def ahI (H:HR ν h w) {id:Nat} {cs:CK AV} (e:lkB h id=.cells cs):(∀b,ř (ν id) b->¬Ghost.G b)/\∀c∈cs,∀u,VR1 ν h w c u->VRs w Ghost.G (ă h c) u :=
 ⟨fun b hb=>H.ghne id b (by rw[e]; rfl) hb,fun _ _ _ d=>VH H d⟩
def ĕ.up2:∀{as:CK AV} {vs:CK Value},ĕ (Go.Am.VR2 ν h w) as vs->ĕ (Go.Am.VR ν h w) as vs
 |[],[],_=>trivial
 |_::_,_::_,h=>⟨h.1.up,ĕ.up2 h.2⟩
 |[],_::_,h=>h.elim
 |_::_,[],h=>h.elim
def ac5 (H:HR ν h w):∀(l:CK Ty) {x:Val (tyL l)} {v:AV} {u:Value},VR ν h w v u->anv l h v=some x->RR w Ghost.G l x u
 |[],_,_,_,_,e=>by cases e
 |[t],x,v,u,b,e=>Xu H b (fun _ _ _ c=>VH H c) (fun _ _ _ d=>ahI H d) e
 |t::u'::l,x,v,u,b,e=>by
  cases v with
  |tup as =>
   obtain⟨us,rfl,h2⟩:=b;exact⟨us,rfl,Q8 H (u'::l) t x as us.toList h2.up2 (fun _ _ _ _ _ c=>VH H c) (fun _ _ _ _ _ d=>ahI H d) e⟩
  |_=>cases e
def AT.mono {G d:Nat->Prop} (c:∀b,d b->G b):∀{l:CK Ty} {t:Ty} {x:Val (tys t l)} {vs:CK Value},AT w G l t x vs->AT w d l t x vs
 |[],t,x,vs,⟨v,h1,h2⟩=>⟨v,h1,h2.mono c⟩
 |u::l,t,x,vs,⟨v,vs',h1,h2,e⟩=>⟨v,vs',h1,h2.mono c,AT.mono c e⟩
def AL.mono {G c:Nat->Prop} (d:∀b,c b->G b):∀{l:CK Ty} {x:Val (tyL l)} {vs:CK Value},AL w G l x vs->AL w c l x vs
 |[],_,_,h=>h
 |_::_,_,_,h=>AT.mono d h
def AL.VR:∀{l:CK Ty} {x:Val (tyL l)} {vs:CK Value},AL w (Av ν h) l x vs->ĕ (VR ν h w) (aca l x) vs
 |[],_,_,h=>by cases h; trivial
 |_::_,_,_,h=>AT.VR h
end
omit [Ghost] in
def Vp {f:Nat} {p:ú} (E:Env (Val (tyL p.rs))) (d:∀[Ghost],I7 E) (hmix:E.P.follows .mixedOrders=true) (hl:FS E) (law:Nv p E f):ja E.P f p:=by
 intro G x y A w vals z o
 letI g:Ghost:=Gh G
 have m:=law x;rw[A] at m;unfold topK at m;have hy:∀[Ghost],lR E:=I7.yld d;have hall:∀n,n<=10->aeX E n:=sQ (fun _=>d) (fun L call B=>ox hmix L call B) hl;have j:∀M,@nH (g.re g.G [] none M) _ E 2 (ŧ E 10):=fun M=>@hall 10 (Nat.le_refl _) (g.re g.G [] none M) (@hy _);have H:HR (fun _=>undef) [] w:=⟨fun _=>trivial,fun _ _ _ h=>(by cases h),z,fun _ _ h=>(by cases h)⟩;have l:∀b,Av (fun _=>undef) [] b->G b:=fun b hb=>hb.elim (fun⟨_,h,_⟩=>by cases h) id;have i:ĕ (VR (fun _=>undef) [] w) (aca p.ts x) vals:=AL.VR (o.mono l);obtain⟨h1,h2⟩:=yH j (fun M=>@ox (g.re g.G [] none M) _ _ hmix _ _ (j M)) (path:=[]) rfl (fun M fn c s t=>@hl 10 (Nat.le_refl _) (hall 10 (Nat.le_refl _)) (g.re g.G [] none M) (@hy _) [] f fn c rfl s t) m H (Nat.zero_le _) i;refine⟨h1,h2.mono fun e w' q=>?_⟩;obtain⟨ν',h',v,u,rfl,I,F,k,K,J,C⟩:=q;refine⟨u,rfl,ac5 F _ I C,fun b hb=>(k.keep b hb fun⟨_,h,_⟩=>by cases h).1,k.size,k.os,k.tape,k.output⟩
omit [Ghost] in
def Mz {f:Nat} {p:ú} (E:Env (Val (tyL p.rs))) (b:∀[Ghost],I7 E) (hmix:E.P.follows .mixedOrders=true) {tab:CK (õ (Val (tyL p.rs)))} (e:E.loops=kO tab) (c:∀x∈tab,x.Ok E) (law:Nv p E f) (d:E.ranges=Ν []:=by rfl):ja E.P f p :=
 Vp E b hmix (MG hmix e c d) law
omit [Ghost] in
def Nu {f:Nat} {p:ú} (E:Env (Val (tyL p.rs))) (c:∀[Ghost],I7 E) (hmix:E.P.follows .mixedOrders=true) {tab:CK (õ (Val (tyL p.rs)))} (j:E.loops=kO tab) (e:∀x∈tab,x.Ok E) {rtab:CK (Ja (Val (tyL p.rs)))} (i:E.ranges=Ν rtab) (b:∀x∈rtab,x.Ok E) (d:∀x∈rtab,Vi (nM (Ġ E.P x.fid) x.bid)=true) (law:Nv p E f):ja E.P f p :=
 Vp E c hmix (If hmix j e i b d) law
omit [Ghost] in
def ahv {f:Nat} {p:ú} (E c:Env (Val (tyL p.rs))) (e:∀[Ghost],I7 E) (b:∀[Ghost],I7 c) (l:c.P=E.P) (hmix:E.P.follows .mixedOrders=true) {tab:CK (õ (Val (tyL p.rs)))} (h0:c.loops=kO tab) (j:∀x∈tab,x.Ok c) {us:CK amo} (n:E.loops=ad3 c us)
 (d:∀u∈us,(((Ġ E.P u.fid).elim [] (ß 0)).filter fun y=>Nat.beq y.1 u.bid).length=1) (law:Nv p E f) (k:c.ranges=Ν []:=by rfl) (m:E.ranges=Ν []:=by rfl) (i:c.yld=none:=by rfl):ja E.P f p :=
 Vp E e hmix (aip (fun _=>b) l i m (l▸hmix) (MG (l▸hmix) h0 j k) n d) law
def Qa (it:am5) (_:AV) (h:CK Blk):BY (CK (Val it.et)×Val it.ct):=match lkB h 0 with
 |.acc t xs=>match decEq t it.et with
  |isTrue e=>match lkB h 1 with
   |.cells cs=>match Ü it.ct cs with
    |some m=>some (BH (F:=fun t=>CK (Val t)) e xs,m)
    |none=>none
   |_=>none
  |isFalse _=>none
 |_=>none
omit [Ghost] in
def WJ {P:Program} (it:am5) (E:CK (Val it.et)->Env (CK (Val it.et)×Val it.ct)) (s:it.et.isAgg=false) (z:∀xs,(E xs).P=P) (o:∀xs,(E xs).yld=some ⟨it.et,xs⟩) (i:∀xs [Ghost],lR (E xs)->I7 (E xs)) (hmix:P.follows .mixedOrders=true) (hl:∀xs,FS (E xs))
 (law:∀m xs,it.F m=some xs->xc (E xs) (ŧ (E xs) 10) [] it.clo Ck (iB it m) (Qa it)=some (xs,m)):lS P it:=by
 refine⟨s,fun g V m xs N B ν w vals R H d=>?_⟩
 have f:(E xs).P.follows .mixedOrders=true:=by rw[z]; exact hmix
 have A:@lR g _ (E xs):=fun y l=>by rw[o] at l; cases l; rw[z]; exact B
 have hall:∀n,n<=10->aeX (E xs) n:=sQ (i xs) (fun L call O=>ox f L call O) (hl xs);have k:∀M,@nH (g.re g.G [] none M) _ (E xs) 2 (ŧ (E xs) 10):=fun M=>@hall 10 (Nat.le_refl _) (g.re g.G [] none M) A;obtain⟨h1,h2⟩:=yH k (fun M=>@ox (g.re g.G [] none M) _ _ f _ _ (k M)) (path:=[]) rfl (fun M fn c J K=>@hl xs 10 (Nat.le_refl _) (hall 10 (Nat.le_refl _)) (g.re g.G [] none M) A [] it.clo fn c rfl J K) (law m xs N) H R d;rw[z] at h1 h2;refine⟨h1,h2.mono fun e w' C=>?_⟩;obtain⟨ν',h',v,u,rfl,Y,T,S,X,W,b⟩:=C;refine⟨ν',h',u,rfl,T,S,?_⟩;unfold Qa at b
 split at b<;>try (cases b; done)
 rename_i t ys j
 split at b<;>try (cases b; done)
 rename_i l _
 split at b<;>try (cases b; done)
 rename_i cs q
 split at b<;>try (cases b; done)
 rename_i U I;subst l;cases b;exact⟨j,cs,q,I⟩
omit [Ghost] in
def mj {p:ú} {E:Env (Val (tyL p.rs))} {f:Nat} (h:∀x:Val (tyL p.ts),topK E f (aca p.ts x) (fun h v=>Å (anv p.rs h v) some)=p.F x):Nv p E f:=fun x=>by
 rw[<-h x];congr 1;funext h v;unfold Å
 cases anv p.rs h v<;>rfl
omit [Ghost] in
def Ä {α:Type} {Q:α->Prop}:∀x∈([]:CK α),Q x:=fun _ h=>by cases h
omit [Ghost] in
def Á {α:Type} {Q:α->Prop} {a:α} {l:CK α} (h:Q a) (c:∀x∈l,Q x):∀x∈a::l,Q x:=fun x b=>by
 rcases df.1 b with rfl|b
 ·exact h
 ·exact c x b
@[reducible] def Gk (G:Nat->Prop) (D:CK Deferred) (Q:BY Nat):Ghost:=⟨G,D,Q,0,0,0,.unit,fun _ _ _ _=>False,fun _ _ _ _ _ _ h=>h.elim⟩
end Go.Am
end

noncomputable section
namespace Go.Am
open Go.ChangeShapes Go.WideShapes Go.ChangeAt Go.RowKit
abbrev anU:Nat->Prop:=fun _=>False
def Rng:(t:Ty)->Val t->Prop
 |.int .i64,n=>-9223372036854775808<=(n:Int)/\(n:Int)<=9223372036854775807
 |.pair a b,x=>Rng a (x:Val a×Val b).1/\Rng b (x:Val a×Val b).2
 |.slice t,l=>∀x∈(l:CK (Val t)),Rng t x
 |_,_=>True
mutual
def akG (P:Program):Nat->Ty->TypeId->Bool
 |0,_,_=>false
 |n+1,τ,t =>
  match P.underlying t with
  |some .bool=>match τ with
   |.bool=>true
   |_=>false
  |some (.int k)=>match τ with
   |.int b=>k==b
   |_=>false
  |some .string=>match τ with
   |.str=>true
   |_=>false
  |some (.slice e)=>match τ with
   |.slice u=>akG P n u e&&(Nat.beq (P.cellsOf e) u.size&&Nat.ble 1 u.size)
   |_=>false
  |some (.struct fs)=>Nat.beq (P.cellsOf t) τ.size&&(τ.isAgg&&fieldsAre P n τ 0 fs.toList)
  |_=>false
def fieldsAre (P:Program):Nat->Ty->Nat->CK Field->Bool
 |0,_,_,_=>false
 |n+1,τ,off,[f]=>Nat.beq f.offset off&&(Nat.beq (P.cellsOf f.type) τ.size&&akG P n τ f.type)
 |n+1,.pair a b,off,f::g::fs=>Nat.beq f.offset off&&(Nat.beq (P.cellsOf f.type) a.size&&(akG P n a f.type&&fieldsAre P n b (off+a.size) (g::fs)))
 |_,_,_,_=>false
end
def VU {α β:Type} {f:α->BY β}:∀{l:CK α} {ys:CK β},l.mapM f=some ys->∀a∈l,∃y,f a=some y
 |[],ys,_,a,ha=>by cases ha
 |b::l,ys,h,a,ha=>by
  rw[List.mapM_cons] at h
  cases hb:f b with
  |none=>rw[hb] at h; cases h
  |some y =>
   rw[hb] at h
   cases c:l.mapM f with
   |none=>simp[c] at h
   |some d =>
    rcases df.1 ha with rfl|ha
    ·exact⟨y,hb⟩
    ·exact VU c a ha
def QM {α:Type} {Q:Nat->α->Prop}:∀n:Nat,(∀i,i<n->∃x,Q i x)->∃xs:CK α,xs.length=n/\∀i x,xs[i]?=some x->Q i x
 |0,_=>⟨[],rfl,fun i x h=>by simp at h⟩
 |n+1,h=>by
  obtain⟨xs,h1,h2⟩:=QM n fun i hi=>h i (by omega);obtain⟨x,c⟩:=h n (by omega);refine⟨xs++[x],by simp[h1],fun i y b=>?_⟩;rcases dl i n with hi|hi
  ·rw[List.getElem?_append_left (by omega)] at b; exact h2 i y b
  ·rw[gb (by omega),h1] at b
   have:i=n:=by
    rcases dl 0 (i-n) with h0|h0
    ·rw[List.getElem?_eq_none (by simp; omega)] at b; cases b
    ·omega
   subst this;simp at b;rw[<-b]; exact c
section
variable {H:Type} {enc:TypeId×Value->H} {P:Program} {w:World} {sp:Nat->Bool} {held:Bool}
def alW {base:Nat} {a:Addr} {n:Nat} {cs:CK Value} (h:w.cells? base a n=some cs) (c:a.spot=none):CellsAt w a.block a.off cs:=by
 obtain⟨_,i,f⟩:=World.cells?_some h;intro j v d;have e:j<cs.length:=(cY.1 d).1;have:=f j (by omega);rw[d] at this;rw[<-this];congr 1;obtain⟨b,o,s⟩:=a;simp only at c;subst c;exact(add_plain b o j).symm
def aeR (enc:TypeId×Value->H) (P:Program) (w:World) (sp:Nat->Bool) (held:Bool) (n:Nat):Prop :=
 ∀(τ:Ty) (t:TypeId) (b:Nat) (cs:CK Value) (d:DataW H) (ps:CK MemPlace),akG P n τ t=true->DataW.trod enc P w 0 sp held b t cs=some (d,ps)->∃x:Val τ,CR w anU τ x cs/\Rng τ x
def M6 (enc:TypeId×Value->H) (P:Program) (w:World) (sp:Nat->Bool) (held:Bool) (n:Nat):Prop :=
 ∀(τ:Ty) (off:Nat) (fs:CK Field) (b:Nat) (cs:CK Value),fieldsAre P n τ off fs=true->(∀f∈fs,∃y,DataW.trod enc P w 0 sp held b f.type ((cs.drop f.offset).take (P.cellsOf f.type))=some y)->cs.length=off+τ.size->∃x:Val τ,CR w anU τ x (cs.drop off)/\Rng τ x
set_option maxHeartbeats 1000000 in
def ag6 {n:Nat} (A:aeR enc P w sp held n) (B:M6 enc P w sp held n):aeR enc P w sp held (n+1):=by
 intro τ t j cs d ps h e
 cases j with
 |zero=>simp[DataW.trod] at e
 |succ j =>
  unfold akG at h;unfold DataW.trod at e
  split at h
  ·-- bool
   rename_i q;rw[q] at e
   cases τ<;>try (cases h; done)
   rcases cs with _|⟨c,_|⟨U,cs⟩⟩<;>try first|(cases e; done)|(simp at e; done)
   cases c<;>try (cases e; done)
   rename_i b;exact⟨(show Val .bool from b),rfl,trivial⟩
  ·-- int
   rename_i k q;rw[q] at e
   cases τ<;>try (cases h; done)
   rename_i k'
   have hk:k=k':=by simpa using h
   subst hk
   rcases cs with _|⟨c,_|⟨U,cs⟩⟩<;>try first|(cases e; done)|(simp at e; done)
   cases c<;>try (cases e; done)
   rename_i X m;simp only at e
   split at e<;>try (cases e; done)
   rename_i L;obtain⟨rfl,E⟩:=L;refine⟨(show Val (.int X) from m),rfl,?_⟩
   cases X<;>try trivial
   simp only[Lit.wf,cW,decide_eq_true_eq] at E;exact E
  ·-- string
   rename_i q;rw[q] at e
   cases τ<;>try (cases h; done)
   rcases cs with _|⟨c,_|⟨U,cs⟩⟩<;>try first|(cases e; done)|(simp at e; done)
   cases c<;>try (cases e; done)
   rename_i s;exact⟨(show Val .str from s),rfl,trivial⟩
  ·-- slice
   rename_i v q;rw[q] at e
   cases τ<;>try (cases h; done)
   rename_i u;simp only[cW] at h;obtain⟨h1,h2,h3⟩:=h;have F:P.cellsOf v=u.size:=dq h2;have Y:1<=u.size:=eW h3
   rcases cs with _|⟨c,_|⟨U,cs⟩⟩<;>try first|(cases e; done)|(simp at e; done)
   cases c<;>try (cases e; done)
   rename_i base len cap
   cases base with
   |none =>
    cases len<;>cases cap<;>try (cases e; done)
    exact⟨(show Val (.slice u) from[]),⟨none,0,rfl,cX _,.inl rfl⟩,fun x K=>by cases K⟩
   |some a =>
    simp only at e
    split at e<;>try (cases e; done)
    rename_i hb
    cases G:(List.range len).mapM (fun i=>(w.cells? 0 (a.add (i*P.cellsOf v)) (P.cellsOf v)).bind (DataW.trod enc P w 0 sp held j v)) with
    |none=>rw[G] at e; cases e
    |some an3 =>
     clear e
     have z:∀i,i<len->∃x:Val u,∃us,w.cells? 0 (a.add (i*P.cellsOf v)) (P.cellsOf v)=some us/\CR w anU u x us/\Rng u x:=by
      intro i hi;obtain⟨y,J⟩:=VU G i (ff.2 hi)
      cases L:w.cells? 0 (a.add (i*P.cellsOf v)) (P.cellsOf v) with
      |none=>rw[L] at J; cases J
      |some us =>
       rw[L] at J;obtain⟨d',N⟩:=y;obtain⟨x,g1,g2⟩:=A u v j us d' N h1 J;exact⟨x,us,rfl,g1,g2⟩
     obtain⟨xs,T,K⟩:=QM len z;refine⟨(show Val (.slice u) from xs),⟨some a,cap,by rw[T],by rw[T]; exact hb.2.1,?_⟩,fun x O=>?_⟩
     ·rcases fD len with h0|h0
      ·left; exact dD.1 (by rw[T,h0])
      ·right;obtain⟨x0,C,c0,_,_⟩:=z 0 h0;have I:=World.cells?_block c0 (by omega);obtain⟨_,l0,g0⟩:=World.cells?_some c0
       have l:a.spot=none:=by
        have h5:=g0 0 (by omega);obtain⟨V,S⟩:∃V,C[0]?=some V:=⟨C[0],cV (by omega)⟩;rw[S] at h5;simpa[Addr.add] using World.cell?_spot h5
       obtain⟨b,o,s⟩:=a;simp only at l;subst l;refine⟨b,o,rfl,id,by simpa[Addr.add] using I,fun i x R=>?_⟩;obtain⟨us,W,q2,_⟩:=K i x R;refine⟨us,q2,?_⟩;rw[add_plain] at W;have:=alW W rfl;rw[F] at this;exact this
     ·obtain⟨i,hi,rfl⟩:=dm.1 O;obtain⟨us,_,_,g⟩:=K i _ (cV hi);exact g
  ·-- struct
   rename_i fs q;rw[q] at e;simp only[cW] at h;obtain⟨h1,_,h2⟩:=h;have F:P.cellsOf t=τ.size:=dq h1;simp only at e
   split at e<;>try (cases e; done)
   rename_i Z
   cases G:fs.toList.mapM (fun f=>DataW.trod enc P w 0 sp held j f.type ((cs.drop f.offset).take (P.cellsOf f.type))) with
   |none=>rw[G] at e; cases e
   |some xs =>
    have:=B τ 0 fs.toList j cs h2 (VU G) (by omega);simpa using this
  ·cases h
def ab7 {n:Nat} (A:aeR enc P w sp held n) (B:M6 enc P w sp held n):M6 enc P w sp held (n+1):=by
 intro τ off fs c cs h k i;rcases fs with _|⟨f,_|⟨g,fs⟩⟩
 ·simp[fieldsAre] at h
 ·unfold fieldsAre at h;simp only[Bool.and_eq_true] at h;obtain⟨h1,h2,l⟩:=h;obtain⟨⟨d,ps⟩,e⟩:=k f (by simp);rw[Nat.eq_of_beq_eq_true h1,Nat.eq_of_beq_eq_true h2,List.take_of_length_le (by rw[List.length_drop]; omega)] at e;exact A τ f.type c _ d ps l e
 ·cases τ<;>try (simp[fieldsAre] at h; done)
  rename_i a b;unfold fieldsAre at h;simp only[Bool.and_eq_true] at h;obtain⟨h1,h2,l,t⟩:=h;obtain⟨⟨d,ps⟩,e⟩:=k f (by simp);rw[Nat.eq_of_beq_eq_true h1,Nat.eq_of_beq_eq_true h2] at e;obtain⟨x,s,q⟩:=A a f.type c _ d ps l e;simp only[Ty.size] at i;obtain⟨y,o,m⟩:=B b (off+a.size) (g::fs) c cs t (fun u j=>k u (by simp[j])) (by omega);refine⟨(show Val (.pair a b) from(x,y)),⟨_,_,?_,s,o⟩,q,m⟩;rw[<-List.drop_drop,List.take_append_drop]
def zz:∀n,aeR enc P w sp held n/\M6 enc P w sp held n
 |0=>⟨fun τ t b cs d ps h _=>by simp[akG] at h,fun τ off fs b cs h _ _=>by simp[fieldsAre] at h⟩
 |n+1=>⟨ag6 (zz n).1 (zz n).2,ab7 (zz n).1 (zz n).2⟩
def acS {n:Nat} {τ:Ty} {t:TypeId} {v:Value} {d:DataW H} {ps:CK MemPlace} {r:Reach} {base:Nat} (e:akG P n τ t=true) (h:DataW.Trod enc P w 0 sp held t v d ps) (c:Value.okWide P w r base t v):∃x:Val τ,mz w anU τ x v/\Rng τ x:=by
 obtain⟨i,j⟩:=h;obtain⟨x,h1,h2⟩:=(zz n).1 τ t i _ d ps e j;refine⟨x,⟨_,h1,?_⟩,h2⟩
 cases n with
 |zero=>simp[akG] at e
 |succ n =>
  unfold akG at e;unfold Value.okWide at c
  split at e
  ·rename_i b;rw[b] at c
   cases τ<;>try (cases e; done)
   simp only[Cell.okWide,b] at c
   cases v<;>simp_all[Cell.ok,Value.cells,zw,Ty.isAgg]
  ·rename_i k b;rw[b] at c
   cases τ<;>try (cases e; done)
   simp only[Cell.okWide,b] at c
   cases v<;>simp_all[Cell.ok,Value.cells,zw,Ty.isAgg]
  ·rename_i b;rw[b] at c
   cases τ<;>try (cases e; done)
   simp only[Cell.okWide,b] at c
   cases v<;>simp_all[Cell.ok,Value.cells,zw,Ty.isAgg]
  ·rename_i l b;rw[b] at c
   cases τ<;>try (cases e; done)
   simp only[Cell.okWide,b] at c
   cases v<;>simp_all[Cell.ok,Value.cells,zw,Ty.isAgg]
  ·rename_i fs b;rw[b] at c;obtain⟨cs,rfl,_,_⟩:=c;simp only[cW] at e;have f:τ.isAgg=true:=e.2.1;simp[zw,f,Value.cells]
  ·cases e
def Dc (P:Program):CK Ty->CK TypeId->Bool
 |[],[]=>true
 |τ::l,t::ts=>akG P 40 τ t&&Dc P l ts
 |_,_=>false
def acT {r:Reach} {base:Nat}:∀(l:CK Ty) (τ:Ty) (t:TypeId) (ts:CK TypeId) (v:Value) (vs:CK Value) (k:CK (DataW H)) (ps:CK MemPlace),Dc P (τ::l) (t::ts)=true->DataW.TrodAll enc P w 0 sp held (t::ts) (v::vs) k ps ->
 (∀(j:Nat) f e,(t::ts)[j]?=some f->(v::vs)[j]?=some e->Value.okWide P w r base f e)->∃x:Val (tys τ l),AT w anU l τ x (v::vs)/\Rng (tys τ l) x
 |l,τ,t,ts,v,vs,[],ps,_,h,_=>by cases h
 |[],τ,t,ts,v,vs,d::k,ps,c,h,i=>by
  obtain⟨p,q,h1,h2,_⟩:=h;simp only[Dc,cW] at c
  have:ts=[]:=by cases ts with|nil=>rfl|cons=>simp[Dc] at c
  subst this
  have m:vs=[]:=by cases vs with|nil=>rfl|cons=>exact h2.elim
  subst m;obtain⟨x,o,n⟩:=acS c.1 h1 (i 0 t v rfl rfl);exact⟨x,⟨v,rfl,o⟩,n⟩
 |u::l,τ,t,ts,v,vs,d::k,ps,c,h,i=>by
  obtain⟨p,q,h1,h2,_⟩:=h;simp only[Dc,cW] at c;obtain⟨x,o,n⟩:=acS c.1 h1 (i 0 t v rfl rfl);rcases ts with _|⟨t2,ts⟩
  ·simp[Dc] at c
  ·rcases vs with _|⟨v2,vs⟩
   ·exact h2.elim
   ·obtain⟨y,z,s⟩:=acT l u t2 ts v2 vs k q c.2 h2 fun j f e a b=>i (j+1) f e (by simpa using a) (by simpa using b);exact⟨(show Val (.pair τ (tys u l)) from(x,y)),⟨v,v2::vs,rfl,o,z⟩,n,s⟩
def akO {r:Reach} {base:Nat} {l:CK Ty} {ts:CK TypeId} {vs:CK Value} {b:CK (DataW H)} {ps:CK MemPlace} (d:Dc P l ts=true) (h:DataW.TrodAll enc P w 0 sp held ts vs b ps)
 (i:∀(j:Nat) f e,ts[j]?=some f->vs[j]?=some e->Value.okWide P w r base f e):∃x:Val (tyL l),AL w anU l x vs/\Rng (tyL l) x:=by
 rcases l with _|⟨τ,l⟩
 ·have:ts=[]:=by cases ts with|nil=>rfl|cons=>simp[Dc] at d
  subst this
  have c:vs=[]:=by cases vs with|nil=>rfl|cons=>cases b<;>exact h.elim
  exact⟨(show Val .unit from()),c,trivial⟩
 ·rcases ts with _|⟨t,ts⟩
  ·simp[Dc] at d
  ·rcases vs with _|⟨v,vs⟩
   ·cases b<;>exact h.elim
   ·exact acT l τ t ts v vs b ps d h i
def FX (j:laidOutB P=true) {W k:World} (hb:Below W.heap.size W k):∀{ts:CK TypeId} {vs:CK Value} {i:CK (DataW H)} {ps:CK MemPlace},(ts.all fun t=>P.readableRec t&&decide (t<P.types.size))=true->DataW.TrodAll enc P W 0 (fun _=>true) true ts vs i ps->(∀x∈ps,x.block<W.heap.size) ->
 DataW.TrodAll enc P k 0 (fun b=>decide (b<W.heap.size)) true ts vs i ps
 |[],[],[],ps,_,h,_=>h
 |t::ts,v::vs,d::i,ps,e,h,c=>by
  obtain⟨p,q,h1,h2,rfl⟩:=h;simp only[fQ,cW,decide_eq_true_eq] at e;exact⟨p,q,Below.trod j e.1.1 e.1.2 h1 hb (fun x f=>c x (dR _ f)),FX j hb (by simpa using e.2) h2 (fun x f=>c x (dN _ f)),rfl⟩
 |[],[],_::_,_,_,h,_=>h.elim
 |[],_::_,_,_,_,h,_=>by cases ‹CK (DataW H)›<;>exact h.elim
 |_::_,[],_,_,_,h,_=>by cases ‹CK (DataW H)›<;>exact h.elim
 |_::_,_::_,[],_,_,h,_=>h.elim
def Nd {W:World}:∀{ts:CK TypeId} {vs:CK Value} {b:CK (DataW H)} {ps:CK MemPlace},DataW.TrodAll enc P W 0 sp held ts vs b ps->b.length=ts.length
 |[],[],[],_,_=>rfl
 |_::_,_::_,_::_,_,h=>by obtain⟨p,q,_,h2,_⟩:=h; simp[Nd h2]
 |[],[],_::_,_,h=>h.elim
 |[],_::_,b,_,h=>by cases b<;>exact h.elim
 |_::_,[],b,_,h=>by cases b<;>exact h.elim
 |_::_,_::_,[],_,h=>h.elim
def law_lifted {C:Checked} {os:Os} {f:FuncId} {fn:Func} {s:ChangeSpec} {d:CK PathCond} {p:ú} {tb:TypeId} (own:ownKnob C.prog.godebug=none) (c:os.Started) (k:C.prog.inits.idxOf? f=none) (O:C.prog.funcs[f]?=some fn)
 (b:∃(w:World) (tape:Tape) (i:Input),w.os=os/\(w.forCall tape i).Shaped C.prog/\i.vars=[]/\Input.okWide C.prog (w.forCall tape i) .any w.heap.size f i /\
  s.pre6 enc C.prog fn d false (w.forCall tape i).memory i.args/\({}:Assume).holds C.prog (lone (Frame.enter C.prog f i.args .normal) [] (w.forCall tape i)))
 (hp:ja C.prog f p) (m:p.rs=[.bool]) (law:∀x:Val (tyL p.ts),Rng (tyL p.ts) x->p.F x=some (m▸(show Val (tyL [.bool]) from true))) (B:Dc C.prog p.ts fn.params.toList=true) (E:s.vars=[])
 (hs:∀l:CK (DataW H),l.length=fn.params.toList.length->s.fn H l={results:=[.lit (.bool true)],args:=l}) (hl:laidOutB C.prog=true) (K:(fn.params.toList.all fun t=>C.prog.readableRec t&&decide (t<C.prog.types.size))=true)
 (G:fn.resultTypes=#[tb]) (y:C.prog.underlying tb=some .bool) :
 ReturnsInHanded {} C os f .any (s.pre6 enc C.prog fn d false) (s.post enc C.prog fn false true false false):=by
 refine returnsInHanded_of_change own c k O b ?_;intro W base args l U I A T _ _;have z:=T;obtain⟨J,q,S,R,rfl,_,_⟩:=T
 have N:U=[]/\q=[]:=by
  rw[E] at R
  cases U with
  |nil=>exact⟨rfl,R⟩
  |cons=>exact R.elim
 obtain⟨rfl,rfl⟩:=N;obtain⟨x,h1,h2⟩:=akO B S (r:=.any) (base:=base) fun j t v ht hv=>A j t v (by simpa using ht) (by simpa using hv);simp only[dt] at z
 have L:∀x∈J,x.block<W.heap.size:=fun x hx=>by simpa using z.lt x hx
 refine(callsIn_wide (n:=0)).1 ((hp anU x _ (law x h2) W args.toList (fun _ h=>h.elim) h1).2.mono fun e W' hw=>?_);obtain⟨u,rfl,k1,k2,Z,Y,X,V⟩:=hw
 have hu:u=.bool true:=by
  obtain⟨ts,rs,F⟩:=p;dsimp only at m k1;subst m;obtain⟨us,c1,rfl⟩:=k1;have:us=[.bool true]:=c1;rw[this]; rfl
 subst hu;have hb:Below W.heap.size W W':=⟨Y,X,V,Z,k2⟩
 have o:s.fn H (l++[])={results:=[.lit (.bool true)],args:=l}:=by rw[dt]; exact hs l (Nd S)
 refine⟨_,rfl,l,[],J,[],J,[],z,?_,?_,?_,hb.frame _,fun h=>by cases h⟩
 ·rw[o,G];exact trodAll_mk1 (shut_bool y _)
 ·rw[o];exact FX hl hb K S L
 ·rw[o,E]; rfl
end
def joined_of {P:Program} {f:FuncId} {fn:Func} {s:ChangeSpec} {c:OpenClaim} (h1:c.wf (OpenSpec.ofChange s)=true) (h2:laidOutB P=true) (U:mapsRowed P=true) (T:fn.params.all (P.readableRec ·)=true) (S:namedTie P c.named s.vars=true)
 (R:(c.stops==[])=true) (O:(P.stops==[])=true) (N:(c.knobs==[])=true) (L:(P.stopKnobs==[])=true) (K:(c.inPlace==P.inPlace f)=true) (J:(c.unfollowed==P.unfollowed f)=true) (I:(c.recurses==P.recurses f)=true) (G:(c.named==P.varsNamed f)=true)
 (F:(c.maps==(fn.params.toList++s.plain.varTypes P).any (P.mapsRec ·))=true) (E:(c.ifaces==(fn.params.toList++s.plain.varTypes P).any (P.ifacesRec ·))=true) (C:(c.mapsOut==P.mapsAmong fn.resultTypes.toList)=true)
 (B:(c.loops==(fn.params.toList++s.plain.varTypes P).any (P.loopsFrom ·))=true) (A:(c.wideKeys==(fn.params.toList++s.plain.varTypes P++fn.resultTypes.toList).any (P.wideKeysFrom ·))=true)
 (z:s.vars.all (P.varReadable ·)=true) (y:fn.resultTypes.all (fun t=>P.readableRec t&&decide (t<P.types.size))=true) (v:(c.ifacesOut==fn.resultTypes.toList.any (P.ifacesRec ·))=true) (u:(c.loopsOut==fn.resultTypes.toList.any (P.loopsFrom ·))=true)
 (q:(c.plainKeys==P.plainKeys)=true) (o:c.shortTexts.isNone=true) (n:P.stopsHeard=true) (m:P.mayEnter=true) (l:(c.lifted==P.liftsFinal)=true) (j:(P.make==some c.make)=true)
 (i:(c.kinds==(if c.domain.isEmpty then[] else fn.params.toList.map fun t=>match P.underlying t with|some (.int k)=>some k|_=>none))=true) (e:(c.pinned==c.pinnedBy)=true)
 (d:(c.veiled==(fn.params.toList++s.plain.varTypes P++fn.resultTypes.toList).any (P.veiledRec ·))=true) (b:c.veiledFits P fn.params.toList (fn.params.toList++s.plain.varTypes P++fn.resultTypes.toList)=true):joinedFacts P f fn s c=true:=by
 unfold joinedFacts;simp only[h1,h2,U,T,S,R,O,N,L,K,J,I,G,F,E,C,B,A,z,y,v,u,q,o,n,m,l,j,e,d,b,Bool.and_true];exact i
end Go.Am
end
