/- lemmas -/
import Derived.Test.YtbfmlbheofblcaaGreatAmC
import Derived.RangeFuncNested
import Derived.Below
import Derived.ProofKit
import Derived.OpenShut
import Derived.WalkKit
import Derived.SizedLaws
import Derived.Carry
set_option linter.all false
noncomputable section
namespace Go.Am
variable [ë]
structure IFun where
 clo:Nat
 ct:Ty
 et:Ty
 F:Val ct->AN (AS (Val et))
def jE (it:IFun) (m:Val it.ct):AS Blk:=[.acc it.et [],.cells (flat it.ct m)]
def YL:AS AV:=[.yld,.box 1 0]
structure Vm (P:Program) (it:IFun):Prop where
 agg:it.et.isAgg=false
 ok:∀(g:Ð) (_:it.et=g.T) (m:Val it.ct) (xs:AS (Val it.et)),it.F m=some xs->@YldP _ g P ⟨it.et,xs,false⟩->∀(ν:Nat->Value) (w:World) (vals:AS Value),g.B<=w.heap.size->@HR _ g ν (jE it m) w->ò (@VR _ g ν (jE it m) w) YL vals ->
  (∃fn c,P.funcs[it.clo]?=some fn/\fn.body=some c)/\CallsIn Fence.wide 0 P it.clo vals.toArray w fun e w'=>∃ν' h' u,e=.returned u/\@HR _ g ν' h' w'/\Ev 2 ν (jE it m) w ν' h' w'/\lkB h' 0=.acc it.et xs/\∃cs,lkB h' 1=.cells cs/\Ù it.ct cs=some m
def Vm.mono {P:Program} {clo:Nat} {ct et:Ty} {F b:Val ct->AN (AS (Val et))} (h:Vm P ⟨clo,ct,et,F⟩) (c:∀m xs,b m=some xs->F m=some xs):Vm P ⟨clo,ct,et,b⟩ :=
 ⟨h.agg,fun g d m xs e=>h.ok g d m xs (c m xs e)⟩
def nr0 (id:Nat):AV->Bool
 |.box j _=>!Nat.beq j id
 |_=>true
def nr1 (id:Nat):AV->Bool
 |.fn _ a b=>a.all (nr0 id)&&b.all (nr0 id)
 |v=>nr0 id v
def nr2 (id:Nat):AV->Bool
 |.agg cs=>cs.all (nr1 id)
 |v=>nr1 id v
def nr3 (id:Nat):AV->Bool
 |.tup cs=>cs.all (nr2 id)
 |v=>nr2 id v
def nrB (id:Nat):Blk->Bool
 |.cells cs=>cs.all (nr1 id)
 |.fns es=>es.all fun e=>nr1 id e.2
 |_=>true
def clr (id:Nat) (v:AV):AV:=match nr3 id v with
 |true=>v
 |false=>.any
def ò.memR {α β:Type} {R d:α->β->Prop}:∀{l:AS α} {m:AS β},(∀a∈l,∀b,R a b->d a b)->ò R l m->ò d l m
 |[],[],_,_=>trivial
 |a::l,b::m,c,h=>⟨c a (by simp) b h.1,ò.memR (fun a ha=>c a (by simp[ha])) h.2⟩
 |[],_::_,_,h=>h.elim
 |_::_,[],_,h=>h.elim
def lkB_all {f:Blk->Bool} (h0:f .dead=true):∀(l:AS Blk),l.all f=true->∀i,f (lkB l i)=true
 |[],_,i=>by cases i<;>exact h0
 |x::l,h,0=>by simp only[eQ,cM] at h; exact h.1
 |x::l,h,i+1=>by simp only[eQ,cM] at h; exact lkB_all h0 l h.2 i
def lk_all {f:AV->Bool} (h0:f .any=true):∀(l:AS AV),l.all f=true->∀i,f (lk l i)=true
 |[],_,i=>by cases i<;>exact h0
 |x::l,h,0=>by simp only[eQ,cM] at h; exact h.1
 |x::l,h,i+1=>by simp only[eQ,cM] at h; exact lk_all h0 l h.2 i
def ahF {f:AV->AV} (h0:f .any=.any):∀(l:AS AV) (i:Nat),lk (l.map f) i=f (lk l i)
 |[],i=>by cases i<;>exact h0.symm
 |x::l,0=>rfl
 |x::l,i+1=>ahF h0 l i
section
variable {g:Ð} {D:AS Deferred} {Q:AN Nat} {M:Nat} {ν:Nat->Value} {h:AS Blk} {w:World} {id b0:Nat} {cs:AS AV}
abbrev ahI (g:Ð) (b0:Nat):Nat->Prop:=fun k=>g.G k\/k=b0
def adT (f:lkB h id=.cells cs) (d:ν id=.pointer (some ⟨b0,0,none⟩)) (k:Nat) (b:@Av _ (g.re (ahI g b0) D Q M) ν (ì h id .dead) k):@Av _ g ν h k:=by
 rcases b with⟨j,c,e⟩|b
 ·refine .inl ⟨j,?_,e⟩;rw[tg] at c
  split at c
  ·cases c
  ·exact c
 ·rcases b with b|rfl
  ·exact .inr b
  ·exact .inl ⟨id,by rw[f]; rfl,by rw[d]; rfl⟩
def QD (y:lkB h id=.cells cs) (m:ν id=.pointer (some ⟨b0,0,none⟩)) {a:AV} {v:Value} (z:nr0 id a=true) (f:@VR0 _ g ν h w a v):@VR0 _ (g.re (ahI g b0) D Q M) ν (ì h id .dead) w a v:=by
 have sub:=adT (D:=D) (Q:=Q) (M:=M) (g:=g) y m
 have l:∀{j:Nat} {B:Blk},lkB h j=B->(∀cs,B≠.cells cs)->lkB (ì h id .dead) j=B:=fun {j B} u A=>by
  rw[Ó _ (fun e=>by rw[e,y] at u; exact A _ u.symm)]; exact u
 cases a with
 |slc t xs=>exact CR.mono sub f
 |fsc t xs=>exact CR.mono sub f
 |mp k t es=>exact CR.mono sub f
 |eptr t x off =>
  obtain⟨b,o,us,h1,h2,d,E,C⟩:=f;exact⟨b,o,us,h1,fun q=>h2 (sub b q),d,CR.mono sub E,C⟩
 |own j q=>obtain⟨h1,t,g',fz,xs,h2,d⟩:=f; exact⟨h1,t,g',fz,xs,l h2 (by simp),d⟩
 |sub j q lo n=>obtain⟨h1,t,g',fz,xs,h2,d⟩:=f; exact⟨h1,t,g',fz,xs,l h2 (by simp),d⟩
 |omp j=>obtain⟨h1,k,t,es,h2,d⟩:=f; exact⟨h1,k,t,es,l h2 (by simp),d⟩
 |optr j q i off=>obtain⟨h1,t,g',fz,xs,h2,d⟩:=f; exact⟨h1,t,g',fz,xs,l h2 (by simp),d⟩
 |dp j q=>obtain⟨h1,k,g',xss,h2,d⟩:=f; exact⟨h1,k,g',xss,l h2 (by simp),d⟩
 |dq j q i=>obtain⟨h1,k,g',xss,h2,d⟩:=f; exact⟨h1,k,g',xss,l h2 (by simp),d⟩
 |dr j q i=>obtain⟨h1,k,g',xss,h2,d⟩:=f; exact⟨h1,k,g',xss,l h2 (by simp),d⟩
 |de j q i o=>obtain⟨h1,k,g',xss,h2,d⟩:=f; exact⟨h1,k,g',xss,l h2 (by simp),d⟩
 |ofn j=>obtain⟨h1,es,h2,d⟩:=f; exact⟨h1,es,l h2 (by simp),d⟩
 |oit j=>obtain⟨h1,s,q,h2,d⟩:=f; exact⟨h1,s,q,l h2 (by simp),d⟩
 |box j off =>
  obtain⟨c,b,h1,h2,d⟩:=f;refine⟨c,b,?_,h2,d⟩;rw[Ó _ (fun e=>by simp[nr0,e] at z)]; exact h1
 |_=>exact f
def Hv (i:lkB h id=.cells cs) (b:ν id=.pointer (some ⟨b0,0,none⟩)) {a:AV} {v:Value} (d:nr1 id a=true) (f:@VR1 _ g ν h w a v):@VR1 _ (g.re (ahI g b0) D Q M) ν (ì h id .dead) w a v:=by
 cases e:a.isFn with
 |true =>
  cases a<;>try cases e
  obtain⟨fs,c,h1,h2,j⟩:=f;simp only[nr1,cM,dw] at d;exact⟨fs,c,h1,h2.memR fun a ha _=>QD i b (d.1 a ha),j.memR fun a ha _=>QD i b (d.2 a ha)⟩
 |false =>
  rw[@sc _ (g.re _ _ _ _) _ _ _ _ _ e];rw[@sc _ g _ _ _ _ _ e] at f;refine QD i b ?_ f
  cases a<;>first|exact d|cases e
def Y7 (f:lkB h id=.cells cs) (b:ν id=.pointer (some ⟨b0,0,none⟩)) {a:AV} {v:Value} (e:nr2 id a=true) (d:@VR2 _ g ν h w a v):@VR2 _ (g.re (ahI g b0) D Q M) ν (ì h id .dead) w a v:=by
 cases c:a.isAgg with
 |true =>
  cases a<;>try cases c
  obtain⟨vs,h1,h2⟩:=d;simp only[nr2,dw] at e;exact⟨vs,h1,h2.memR fun a ha _ i=>⟨Hv f b (e a ha) i.1,i.2⟩⟩
 |false =>
  rw[@uB _ (g.re _ _ _ _) _ _ _ _ _ c];rw[@uB _ g _ _ _ _ _ c] at d;refine Hv f b ?_ d
  cases a<;>first|exact e|cases c
def aiP (f:lkB h id=.cells cs) (b:ν id=.pointer (some ⟨b0,0,none⟩)) {a:AV} {v:Value} (e:nr3 id a=true) (d:@VR _ g ν h w a v):@VR _ (g.re (ahI g b0) D Q M) ν (ì h id .dead) w a v:=by
 cases c:a.isTup with
 |true =>
  cases a<;>try cases c
  obtain⟨vs,h1,h2⟩:=d;simp only[nr3,dw] at e;exact⟨vs,h1,h2.memR fun a ha _=>Y7 f b (e a ha)⟩
 |false =>
  rw[@sa _ (g.re _ _ _ _) _ _ _ _ _ c];rw[@sa _ g _ _ _ _ _ c] at d;refine Y7 f b ?_ d
  cases a<;>first|exact e|cases c
def aiQ (F:lkB h id=.cells cs) (A:ν id=.pointer (some ⟨b0,0,none⟩)) (N:(ì h id .dead).all (nrB id)=true) (H:@HR _ g ν h w):@HR _ (g.re (ahI g b0) D Q M) ν (ì h id .dead) w:=by
 have sub:=adT (D:=D) (Q:=Q) (M:=M) (g:=g) F A;have J:id<h.length:=Ņ F (by simp)
 have L:∀{j},(lkB (ì h id .dead) j).live=true->j≠id/\(lkB h j).live=true:=fun {j} y=>by
  rw[tg] at y
  split at y
  ·cases y
  ·rename_i O;exact⟨fun e=>O ⟨e,J⟩,y⟩
 have R:∃c e,w.heap[b0]?=some (.cells c e (0,0)):=by
  have:=@HR.blk _ g _ _ _ H id;rw[F] at this;obtain⟨b,c,e,E,G,_⟩:=this;rw[A] at E; cases E;exact⟨c,e,G⟩
 refine @HR.mk _ (g.re (ahI g b0) D Q M) _ _ _ (fun j=>?_) (fun i j b hi y=>@HR.inj _ g _ _ _ H i j b (L hi).2 (L y).2) (fun k B=>?_) (fun j k y hb B=>?_) (@HR.glob _ g _ _ _ H) (fun b hb ⟨j,y,V⟩=>@HR.globL _ g _ _ _ H b hb ⟨j,(L y).2,V⟩)
 ·by_cases y:j=id
  ·rw[y,Ü _ J]; trivial
  ·have f:=lkB_all rfl _ N j;rw[Ó _ y] at f ⊢;have n:=@HR.blk _ g _ _ _ H j
   cases l:lkB h j with
   |dead=>trivial
   |cells c =>
    rw[l] at n f;obtain⟨b,c,e,h1,h2,C⟩:=n;simp only[nrB,dw] at f;exact⟨b,c,e,h1,h2,C.memR fun a ha _ S=>⟨Hv F A (f a ha) S.1,S.2⟩⟩
   |row t g' fz xs =>
    rw[l] at n
    cases fz with
    |true=>exact CR.mono sub n
    |false =>
     obtain⟨base,cap,h1,h2,C⟩:=n;refine⟨base,cap,h1,h2,C.imp (fun z=>z) fun⟨b,off,c,e,K,Z,Y,X⟩=>⟨b,off,c,e,K,Z,Y,fun i x I=>?_⟩⟩;obtain⟨us,E,G⟩:=X i x I;exact⟨us,CR.mono sub E,G⟩
   |map k v es =>
    rw[l] at n;obtain⟨b,d,u,h1,h2,C,K⟩:=n;refine⟨b,d,u,h1,h2,C,fun i x I=>?_⟩;obtain⟨m,us,E,G,U,T⟩:=K i x I;exact⟨m,us,E,CR.mono sub G,CR.mono sub U,T⟩
   |deep k g' xss=>rw[l] at n; exact n
   |fns es =>
    rw[l] at n f;obtain⟨b,d,u,h1,h2,C⟩:=n;simp only[nrB,dw] at f;exact⟨b,d,u,h1,h2,C.memR fun e W _ q=>⟨q.1,q.2.1,Hv F A (f e W) q.2.2⟩⟩
   |iter s q=>rw[l] at n; exact n
   |acc t xs =>
    rw[l] at n;obtain⟨us,h1,h2,C,K⟩:=n;exact⟨us,h1,h2,C,g.st _ _ _ _ _ _ K ⟨rfl,rfl,rfl,cJ _,fun b _ O I=>O (sub b I),fun b o hb _ _=>hb,fun b o hb _ _=>hb,fun _ _ _=>rfl⟩⟩
 ·rcases B with(B|rfl)|B
  ·exact @HR.ghL _ g _ _ _ H k B
  ·obtain⟨c,e,q⟩:=R;exact à q
  ·exact @HR.ghlt _ g _ _ _ H k (.inr B)
 ·obtain⟨h1,h2⟩:=L y;rcases B with(B|rfl)|B
  ·exact @HR.ghG _ g _ _ _ H j k h2 hb B
  ·exact h1 (@HR.inj _ g _ _ _ H j id k h2 (by rw[F]; rfl) hb (by rw[A]; rfl))
  ·exact @HR.ghne _ g _ _ _ H j k h2 hb (.inr B)
end
section
variable {g:Ð} {G1:Nat->Prop} {D D1:AS Deferred} {Q Q1:AN Nat} {M M1:Nat} {ν:Nat->Value} {h:AS Blk} {w:World} {id b0:Nat} {cs:AS AV}
def aeP {P:Blk->Prop} (hd:lkB h id=.dead) {j:Nat} {B:Blk} (b:lkB h j=B) (c:B≠.dead) (C:Blk) (V:Value):lkB (ì h id C) j=B/\í ν id V j=ν j:=by
 letI:Ð:=Gh fun _=>False
 have:j≠id:=fun e=>by rw[e,hd] at b; exact c b.symm
 exact⟨by rw[Ó _ this]; exact b,ý _ _ this⟩
def aeQ (l:id<h.length) (m:∀b,g.G b->G1 b) (f:G1 b0) (k:Nat) (d:@Av _ (g.re g.G D Q M) (í ν id (.pointer (some ⟨b0,0,none⟩))) (ì h id (.cells cs)) k):@Av _ (g.re G1 D1 Q1 M1) ν h k:=by
 rcases d with⟨j,i,c⟩|d
 ·by_cases e:j=id
  ·rw[e,Í] at c; cases c; exact .inr f
  ·rw[Ó _ e] at i; rw[ý _ _ e] at c; exact .inl ⟨j,i,c⟩
 ·exact .inr (m k d)
def QX (hd:lkB h id=.dead) (u:id<h.length) (A:∀b,g.G b->G1 b) (y:G1 b0) {a:AV} {v:Value} (e:@VR0 _ (g.re G1 D1 Q1 M1) ν h w a v):@VR0 _ (g.re g.G D Q M) (í ν id (.pointer (some ⟨b0,0,none⟩))) (ì h id (.cells cs)) w a v:=by
 have sub:=aeQ (D:=D) (Q:=Q) (M:=M) (D1:=D1) (Q1:=Q1) (M1:=M1) (ν:=ν) (cs:=cs) u A y;have l:∀{j:Nat} {B:Blk},lkB h j=B->B≠.dead->lkB (ì h id (.cells cs)) j=B:=fun {j B} m z=>(aeP (P:=fun _=>True) (ν:=ν) hd m z _ .nilFunc).1;have f:∀{j:Nat} {B:Blk},lkB h j=B->B≠.dead->í ν id (.pointer (some ⟨b0,0,none⟩)) j=ν j:=fun {j B} m z=>(aeP (P:=fun _=>True) (ν:=ν) hd m z (.cells cs) _).2
 cases a with
 |slc t xs=>exact CR.mono sub e
 |fsc t xs=>exact CR.mono sub e
 |mp k t es=>exact CR.mono sub e
 |eptr t x off =>
  obtain⟨b,o,us,h1,h2,d,E,C⟩:=e;exact⟨b,o,us,h1,fun q=>h2 (sub b q),d,CR.mono sub E,C⟩
 |own j q=>obtain⟨h1,t,g',fz,xs,h2,d⟩:=e; exact⟨h1,t,g',fz,xs,l h2 (by simp),by rw[f h2 (by simp)]; exact d⟩
 |sub j q lo n=>obtain⟨h1,t,g',fz,xs,h2,d⟩:=e; exact⟨h1,t,g',fz,xs,l h2 (by simp),by rw[f h2 (by simp)]; exact d⟩
 |omp j=>obtain⟨h1,k,t,es,h2,d⟩:=e; exact⟨h1,k,t,es,l h2 (by simp),by rw[f h2 (by simp)]; exact d⟩
 |optr j q i off=>obtain⟨h1,t,g',fz,xs,h2,d⟩:=e; exact⟨h1,t,g',fz,xs,l h2 (by simp),by rw[f h2 (by simp)]; exact d⟩
 |dp j q=>obtain⟨h1,k,g',xss,h2,d⟩:=e; exact⟨h1,k,g',xss,l h2 (by simp),by rw[f h2 (by simp)]; exact d⟩
 |dq j q i=>obtain⟨h1,k,g',xss,h2,d⟩:=e; exact⟨h1,k,g',xss,l h2 (by simp),by rw[f h2 (by simp)]; exact d⟩
 |dr j q i=>obtain⟨h1,k,g',xss,h2,d⟩:=e; exact⟨h1,k,g',xss,l h2 (by simp),by rw[f h2 (by simp)]; exact d⟩
 |de j q i o=>obtain⟨h1,k,g',xss,h2,d⟩:=e; exact⟨h1,k,g',xss,l h2 (by simp),by rw[f h2 (by simp)]; exact d⟩
 |ofn j=>obtain⟨h1,es,h2,d⟩:=e; exact⟨h1,es,l h2 (by simp),d.trans (f h2 (by simp)).symm⟩
 |oit j=>obtain⟨h1,s,q,h2,d⟩:=e; exact⟨h1,s,q,l h2 (by simp),d.trans (f h2 (by simp)).symm⟩
 |box j off=>obtain⟨c,b,h1,h2,d⟩:=e; exact⟨c,b,l h1 (by simp),by rw[f h1 (by simp)]; exact h2,d⟩
 |_=>exact e
def Hy (hd:lkB h id=.dead) (d:id<h.length) (j:∀b,g.G b->G1 b) (e:G1 b0) {a:AV} {v:Value} (f:@VR1 _ (g.re G1 D1 Q1 M1) ν h w a v):@VR1 _ (g.re g.G D Q M) (í ν id (.pointer (some ⟨b0,0,none⟩))) (ì h id (.cells cs)) w a v:=by
 cases i:a.isFn with
 |true =>
  cases a<;>try cases i
  obtain⟨fs,c,h1,h2,k⟩:=f;exact⟨fs,c,h1,h2.mono fun _ _=>QX hd d j e,k.mono fun _ _=>QX hd d j e⟩
 |false =>
  rw[@sc _ (g.re _ _ _ _) _ _ _ _ _ i];rw[@sc _ (g.re G1 _ _ _) _ _ _ _ _ i] at f;exact QX hd d j e f
def Zt (hd:lkB h id=.dead) (c:id<h.length) (j:∀b,g.G b->G1 b) (d:G1 b0) {a:AV} {v:Value} (e:@VR2 _ (g.re G1 D1 Q1 M1) ν h w a v):@VR2 _ (g.re g.G D Q M) (í ν id (.pointer (some ⟨b0,0,none⟩))) (ì h id (.cells cs)) w a v:=by
 cases f:a.isAgg with
 |true =>
  cases a<;>try cases f
  obtain⟨vs,h1,h2⟩:=e;exact⟨vs,h1,h2.mono fun _ _ i=>⟨Hy hd c j d i.1,i.2⟩⟩
 |false =>
  rw[@uB _ (g.re _ _ _ _) _ _ _ _ _ f];rw[@uB _ (g.re G1 _ _ _) _ _ _ _ _ f] at e;exact Hy hd c j d e
def ai4 (hd:lkB h id=.dead) (c:id<h.length) (i:∀b,g.G b->G1 b) (d:G1 b0) {a:AV} {v:Value} (e:@VR _ (g.re G1 D1 Q1 M1) ν h w a v):@VR _ (g.re g.G D Q M) (í ν id (.pointer (some ⟨b0,0,none⟩))) (ì h id (.cells cs)) w a v:=by
 cases f:a.isTup with
 |true =>
  cases a<;>try cases f
  obtain⟨vs,h1,h2⟩:=e;exact⟨vs,h1,h2.mono fun _ _=>Zt hd c i d⟩
 |false =>
  rw[@sa _ (g.re _ _ _ _) _ _ _ _ _ f];rw[@sa _ (g.re G1 _ _ _) _ _ _ _ _ f] at e;exact Zt hd c i d e
def ai5 (hd:lkB h id=.dead) (I:id<h.length) (S:∀b,g.G b->G1 b) (J:G1 b0) (Y:¬(g.G b0\/ë.E b0)) (X:¬b0<ë.n) {c:Array Value} {e:TypeId} (hw:w.heap[b0]?=some (.cells c e (0,0)))
 (hc:ò (@VRc _ (g.re g.G D Q M) (í ν id (.pointer (some ⟨b0,0,none⟩))) (ì h id (.cells cs)) w) cs c.toList) (H:@HR _ (g.re G1 D1 Q1 M1) ν h w):@HR _ (g.re g.G D Q M) (í ν id (.pointer (some ⟨b0,0,none⟩))) (ì h id (.cells cs)) w:=by
 have sub:=aeQ (D:=D) (Q:=Q) (M:=M) (D1:=D1) (Q1:=Q1) (M1:=M1) (ν:=ν) (cs:=cs) I S J
 have W:∀{j b},(lkB (ì h id (.cells cs)) j).live=true->ę (í ν id (.pointer (some ⟨b0,0,none⟩)) j) b->(j=id/\b=b0)\/(j≠id/\(lkB h j).live=true/\ę (ν j) b):=fun {j b} B L=>by
  by_cases q:j=id
  ·rw[q,Í] at L; cases L; exact .inl ⟨q,rfl⟩
  ·rw[Ó _ q] at B; rw[ý _ _ q] at L; exact .inr ⟨q,B,L⟩
 refine @HR.mk _ (g.re g.G D Q M) _ _ _ (fun j=>?_) (fun i j b hi B hbi Z=>?_) (fun k R=>@HR.ghlt _ (g.re G1 D1 Q1 M1) _ _ _ H k (R.imp (S k) fun q=>q)) (fun j k B hb R=>?_) (@HR.glob _ (g.re G1 D1 Q1 M1) _ _ _ H) (fun b hb ⟨j,B,L⟩=>by
  rcases W B L with⟨_,q⟩|⟨_,l,C⟩
  ·rw[q] at hb; exact X hb
  ·exact @HR.globL _ (g.re G1 D1 Q1 M1) _ _ _ H b hb ⟨j,l,C⟩)
 ·by_cases B:j=id
  ·rw[B,Ü _ I];exact⟨b0,c,e,Í _ _ _,hw,hc⟩
  ·rw[Ó _ B];have y:=@HR.blk _ (g.re G1 D1 Q1 M1) _ _ _ H j;have f:=ý ν (.pointer (some ⟨b0,0,none⟩)) B
   cases u:lkB h j with
   |dead=>trivial
   |cells c2 =>
    rw[u] at y;obtain⟨b,c3,e3,h1,h2,K⟩:=y;exact⟨b,c3,e3,f.trans h1,h2,K.mono fun _ _ hq=>⟨Hy hd I S J hq.1,hq.2⟩⟩
   |row t g' fz xs =>
    rw[u] at y
    cases fz with
    |true =>
     show CR w _ _ _ [í ν id _ j];rw[f]; exact CR.mono sub y
    |false =>
     obtain⟨base,cap,h1,h2,K⟩:=y;refine⟨base,cap,f.trans h1,h2,K.imp (fun z=>z) fun⟨b,off,c,e,T,h5,h6,h7⟩=>⟨b,off,c,e,T,h5,h6,fun i x N=>?_⟩⟩;obtain⟨us,F,l⟩:=h7 i x N;exact⟨us,CR.mono sub F,l⟩
   |map k v es =>
    rw[u] at y;obtain⟨b,d,A,h1,h2,K,T⟩:=y;refine⟨b,d,A,f.trans h1,h2,K,fun i x N=>?_⟩;obtain⟨m,us,F,l,C,V⟩:=T i x N;exact⟨m,us,F,CR.mono sub l,CR.mono sub C,V⟩
   |deep k g' xss =>
    rw[u] at y;obtain⟨base,cap,us,h1,h2⟩:=y;exact⟨base,cap,us,f.trans h1,h2⟩
   |fns es =>
    rw[u] at y;obtain⟨b,d,A,h1,h2,K⟩:=y;exact⟨b,d,A,f.trans h1,h2,K.mono fun _ _ q=>⟨q.1,q.2.1,Hy hd I S J q.2.2⟩⟩
   |iter s q =>
    rw[u] at y;obtain⟨b,h1,h2⟩:=y;exact⟨b,f.trans h1,h2⟩
   |acc t xs =>
    rw[u] at y;obtain⟨us,h1,h2,K,T⟩:=y;refine⟨us,f.trans h1,by rw[f]; exact h2,K,?_⟩;rw[f];exact g.st _ _ _ _ _ _ T ⟨rfl,rfl,rfl,cJ _,fun b _ hn N=>hn (sub b N),fun b o hb _ _=>hb,fun b o hb _ _=>hb,fun _ _ _=>rfl⟩
 ·have O:∀{j b},(lkB h j).live=true->ę (ν j) b->b≠b0:=fun {j b} F l C=>@HR.ghG _ (g.re G1 D1 Q1 M1) _ _ _ H j b F l (by rw[C]; exact J)
  rcases W hi hbi with⟨F,l⟩|⟨F,l,C⟩<;>rcases W B Z with⟨V,U⟩|⟨V,U,q6⟩
  ·rw[F,V]
  ·exact absurd l (O U q6)
  ·exact absurd U (O l C)
  ·exact @HR.inj _ (g.re G1 D1 Q1 M1) _ _ _ H i j b l U C q6
 ·rcases W B hb with⟨F,l⟩|⟨F,l,C⟩
  ·rw[l] at R; exact Y R
  ·exact @HR.ghne _ (g.re G1 D1 Q1 M1) _ _ _ H j k l C (R.imp (S k) fun q=>q)
end
def st0 (pin:Nat):AV->Bool
 |.any=>true
 |.und=>true
 |.bool _=>true
 |.int _ _=>true
 |.str _=>true
 |.nils=>true
 |.slc _ _=>true
 |.fsc _ _=>true
 |.nilm=>true
 |.mp _ _ _=>true
 |.nilp=>true
 |.nilfn=>true
 |.yld=>true
 |.ifc _=>true
 |.box id _=>Nat.blt id pin
 |.ofn id=>Nat.blt id pin
 |_=>false
def st3 (pin:Nat):AV->Bool
 |.fn _ a b=>a.all (st0 pin)&&b.all (st0 pin)
 |a=>st0 pin a
section
variable [Ð] {ν ν':Nat->Value} {h h':AS Blk} {w w':World} {pin:Nat}
def VR0.stab (e:Ev pin ν h w ν' h' w') {a:AV} {v:Value} (c:st0 pin a=true) (i:VR0 ν h w a v):VR0 ν' h' w' a v:=by
 cases a with
 |box id off =>
  obtain⟨cs,b,j,h1,h2⟩:=i;have d:id<pin:=eA c;have hb:=e.blk id d;rw[j] at hb;obtain⟨⟨n,f⟩,l⟩:=hb;exact⟨n,b,f,by rw[l]; exact h1,h2⟩
 |ofn id =>
  obtain⟨h1,es,j,h2⟩:=i;have d:id<pin:=eA c;have hb:=e.blk id d;rw[j] at hb;obtain⟨⟨m,f⟩,l⟩:=hb;exact⟨h1,m,f,by rw[l]; exact h2⟩
 |slc t xs=>exact CR.keep e.keepA i
 |fsc t xs=>exact CR.keep e.keepA i
 |mp k t es=>exact CR.keep e.keepA i
 |own=>cases c
 |sub=>cases c
 |omp=>cases c
 |optr=>cases c
 |eptr=>cases c
 |dp=>cases c
 |dq=>cases c
 |dr=>cases c
 |de=>cases c
 |fn=>cases c
 |agg=>cases c
 |tup=>cases c
 |oit=>cases c
 |_=>exact i
def VR.stab (e:Ev pin ν h w ν' h' w') {a:AV} {v:Value} (c:st3 pin a=true) (d:VR ν h w a v):VR ν' h' w' a v:=by
 cases a with
 |fn f fa fb =>
  obtain⟨fs,cs,h1,h2,i⟩:=d;simp only[st3,cM,dw] at c;exact⟨fs,cs,h1,h2.memR fun a ha _=>VR0.stab e (c.1 a ha),i.memR fun a ha _=>VR0.stab e (c.2 a ha)⟩
 |agg=>cases c
 |tup=>cases c
 |oit=>cases c
 |any=>trivial
 |und=>exact d
 |bool=>exact d
 |int=>exact d
 |str=>exact d
 |nils=>exact d
 |nilm=>exact d
 |nilp=>exact d
 |nilfn=>exact d
 |yld=>exact d
 |box id off=>exact VR0.stab (a:=.box id off) e c d
 |ofn id=>exact VR0.stab (a:=.ofn id) e c d
 |ifc b=>exact d
 |slc t xs=>exact VR0.stab (a:=.slc t xs) e rfl d
 |fsc t xs=>exact VR0.stab (a:=.fsc t xs) e rfl d
 |mp k t es=>exact VR0.stab (a:=.mp k t es) e rfl d
 |own=>cases c
 |sub=>cases c
 |omp=>cases c
 |optr=>cases c
 |eptr=>cases c
 |dp=>cases c
 |dq=>cases c
 |dr=>cases c
 |de=>cases c
def aiK {t:Ty} (c:t.isAgg=false) {x:Val t} {u:Value} (b:CR w (Av ν h) t x [u]):VR ν h w (enc t x) u:=by
 have d:flat t x=[enc t x]:=by cases t<;>first|rfl|cases c
 have:=nP (ν:=ν) (h:=h) b;rw[d] at this;exact VR1.up this.1.1
end
def kP (P:Program) (f:Nat):AN Code :=
 match P.funcs[f]? with
 |some fn=>fn.body
 |none=>none
structure Vu (ρ:Type) where
 path:AS Nat
 fid:Nat
 bid:Nat
 pin:Nat
 cs:AS Ty
 vs:AS Ty
 head:Tpl
 it:IFun
 bF:Val (tyL cs)->Val (tyL vs)->Val it.et->(Val (tyL vs)->AN ρ)->AN ρ
section
variable {ρ:Type}
def XQ (E:Env ρ) (call:AS Nat->Bool->Nat->AS AV->AS Blk->(AV->AS Blk->AN ρ)->AN ρ) (fid:Nat) (path:AS Nat) (pin bid:Nat) (it:LI) (S:St) (y:AV) (c:St->AN ρ):AN ρ :=
 match it with
 |.rf _ ps a b=>match ps.toList with
  |[p]=>goC E call fid path pin bid a {t:=upd S.t p y,h:=S.h} fun e S=>match e with
   |.normal=>goC E call fid path pin bid b S fun e S=>match e with
    |.normal=>c S
    |_=>none
   |_=>none
  |_=>none
 |_=>none
def Vu.back (x:Vu ρ) (b:Val (tyL x.cs)->Val (tyL x.vs)->AN ρ) (S:St):AN ρ:=match pn x.head x.pin x.cs x.vs S with
 |some (p,v)=>b p v
 |none=>none
structure Vu.Ok (E:Env ρ) (x:Vu ρ):Prop where
 one:(((kP E.P x.fid).elim [] (Þ 0)).filter fun y=>Nat.beq y.1 x.bid).length=1
 it:Vm E.P x.it
 tm:∀p v v',(ą x.head x.cs x.vs p v').t=(ą x.head x.cs x.vs p v).t
 stab:∀p v,(ą x.head x.cs x.vs p v).t.all (st3 x.pin)=true
 law:∀p v y (kn:Val (tyL x.cs)->Val (tyL x.vs)->AN ρ),XQ E (jm E (10-x.path.length / 2)) x.fid x.path x.pin x.bid (T8 (kP E.P x.fid) x.bid) (ą x.head x.cs x.vs p v) (enc x.it.et y) (x.back kn)=x.bF p v y (kn p)
def rngK (x:Vu ρ) (m:Nat) (g:AV) (S:St) (K:Exit->St->AN ρ):AN ρ :=
 match Nat.ble m x.pin with
 |true=>match g with
  |.fn (.func c) [] [.box id 0]=>match Nat.beq c x.it.clo with
   |true=>match lkB S.h id with
    |.cells cs=>match cs.all (fun a=>!Q4 a)&&(ì S.h id .dead).all (nrB id) with
     |true=>match Ù x.it.ct cs with
      |some d=>match pn x.head x.pin x.cs x.vs {t:=S.t.map (clr id),h:=ì S.h id .dead} with
       |some (p,v)=>Ä (x.it.F d) fun xs=>adD (x.bF p) xs v fun v=>K .normal (bif Nat.blt id x.pin then {t:=(ą x.head x.cs x.vs p v).t,h:=ì (ą x.head x.cs x.vs p v).h id (.cells (flat x.it.ct d))} else ą x.head x.cs x.vs p v)
       |none=>none
      |none=>none
     |false=>none
    |_=>none
   |false=>none
  |_=>none
 |false=>none
structure RJ (g:Ð) (x:Vu ρ) (ν:Nat->Value) (h:AS Blk) (p:Val (tyL x.cs)) (xs:AS (Val x.it.et)) (Kf:Val (tyL x.vs)->AN ρ) (r:ρ) (ν1:Nat->Value) (h1:AS Blk) (a:Act) (t1:AS AV) (W1:World) (O X:Nat->Prop) (pre:AS (Val x.it.et)) (W:World):Prop where
 os:W.os=W1.os
 tape:W.tape=W1.tape
 output:W.output=W1.output
 size:W1.heap.size<=W.heap.size
 nd:∀(k:Nat) (o:Obj),W1.heap[k]?=some o->Ie o=false->W.heap[k]?=some o
 ex:∃(ν':Nat->Value) (v':Val (tyL x.vs)) (suf:AS (Val x.it.et)),xs=pre++suf/\adD (x.bF p) suf v' Kf=some r/\(∀k,O k↔uM ν' (ą x.head x.cs x.vs p v').h k) /\
  @HR _ (g.re (fun k=>X k/\¬O k/\k<W.heap.size) [] none 0) ν' (ą x.head x.cs x.vs p v').h W /\
  (∀i,@VR _ (g.re (fun k=>X k/\¬O k/\k<W.heap.size) [] none 0) ν' (ą x.head x.cs x.vs p v').h W (lk t1 i) (a.tmps.getD i undef)) /\
  (∀b,b<W1.heap.size->¬uM ν h b->¬uM ν' (ą x.head x.cs x.vs p v').h b) /\
  (∀id,id<x.pin->(lkB h1 id).next ν1 ν' id (lkB (ą x.head x.cs x.vs p v').h id))/\Dd x.pin h1 (ą x.head x.cs x.vs p v').h
section
variable {g:Ð} {x:Vu ρ} {ν:Nat->Value} {h:AS Blk} {p:Val (tyL x.cs)} {xs:AS (Val x.it.et)} {Kf:Val (tyL x.vs)->AN ρ} {r:ρ} {ν1:Nat->Value} {h1:AS Blk} {a:Act} {t1:AS AV} {W1:World}
def RJ.st (q:g.B<=W1.heap.size) {O X t:Nat->Prop} {d:AS (Val x.it.et)} {W j:World} (H:RJ g x ν h p xs Kf r ν1 h1 a t1 W1 O X d W) (S:StepJ W1.heap.size O X W t j):RJ g x ν h p xs Kf r ν1 h1 a t1 W1 O t d j:=by
 obtain⟨T,R,N,L,K,ν',e,l,I,G,m,F,E,C,A,z⟩:=H;have av:∀b,@Av _ (g.re (fun k=>X k/\¬O k/\k<W.heap.size) [] none 0) ν' (ą x.head x.cs x.vs p e).h b↔uM ν' (ą x.head x.cs x.vs p e).h b\/(X b/\¬O b/\b<W.heap.size):=fun b=>Iff.rfl
 have y:jR (g.re (fun k=>X k/\¬O k/\k<W.heap.size) [] none 0) ν' (ą x.head x.cs x.vs p e).h W (fun k=>t k/\¬O k/\k<j.heap.size) j:=by
  refine⟨S.os,S.tape,S.output,S.size,fun b hb u f=>?_,fun b o hb c f=>?_,fun b o hb c n=>S.nd b o hb c (df n q),S.gl⟩
  ·rw[av] at u;exact S.av b hb (fun s=>u (.inr ⟨s,f.2.1,hb⟩)) f.1
  ·refine S.dat b o hb c fun s=>?_;rcases Classical.em (O b) with h'|h'
   ·exact h'
   ·exact(m b).2 (f ((av b).2 (.inr ⟨s,h',à hb⟩)))
 refine⟨S.os.trans T,S.tape.trans R,S.output.trans N,dc L S.size,fun k o v c=>S.nd k o (K k o v c) c (à v),ν',e,l,I,G,m,?_,fun i=>?_,C,A,z⟩
 ·exact HR.step (g:=g.re (fun k=>X k/\¬O k/\k<W.heap.size) [] none 0) (D:=[]) (Q:=none) (M:=0) y (fun b hb=>hb.2.2) (fun b J hb=>hb.2.1 ((m b).2 J)) F
 ·exact VR.step (g:=g.re (fun k=>X k/\¬O k/\k<W.heap.size) [] none 0) (D:=[]) (Q:=none) (M:=0) y (E i)
def atP {x:Vu ρ} (p:Val (tyL x.cs)) (k:Val (tyL x.vs)->AN ρ) (b:Val (tyL x.cs)) (v:Val (tyL x.vs)):AN ρ:=match eqV (tyL x.cs) b p with
 |true=>k v
 |false=>none
def ahb {x:Vu ρ} (p:Val (tyL x.cs)) (k:Val (tyL x.vs)->AN ρ):atP p k p=k:=by
 funext v; unfold atP; rw[qe]
def aha {x:Vu ρ} {p b:Val (tyL x.cs)} {k:Val (tyL x.vs)->AN ρ} {v:Val (tyL x.vs)} {r:ρ} (h:atP p k b v=some r):b=p/\k v=some r:=by
 unfold atP at h
 split at h
 ·exact⟨Dk _ _ _ ‹_›,h⟩
 ·cases h
def ads (ν:Nat->Value) (h:AS Blk):∃us:Array Value,∀b,ę (.agg us) b↔uM ν h b:=by
 have o:∀n,∃l:AS Value,∀b,(∃u∈l,jz u=some b)↔∃id,id<n/\(lkB h id).live=true/\ę (ν id) b:=by
  intro n
  induction n with
  |zero=>exact⟨[],fun b=>⟨fun⟨u,d,_⟩=>(by cases d),fun⟨_,hi,_⟩=>(by omega)⟩⟩
  |succ n v =>
   obtain⟨l,j⟩:=v
   obtain⟨m,t⟩:∃m:AS Value,∀b,(∃u∈m,jz u=some b)↔((lkB h n).live=true/\ę (ν n) b):=by
    cases y:(lkB h n).live with
    |false=>exact⟨[],fun b=>⟨fun⟨u,d,_⟩=>(by cases d),fun⟨q,_⟩=>(by cases q)⟩⟩
    |true =>
     cases z:ν n with
     |agg vs=>exact⟨vs.toList,fun b=>⟨fun q=>⟨rfl,q⟩,fun q=>q.2⟩⟩
     |pointer a=>exact⟨[.pointer a],fun b=>⟨fun⟨u,d,q⟩=>⟨rfl,by rw[cX.1 d] at q; exact q⟩,fun q=>⟨_,.head _,q.2⟩⟩⟩
     |slice a k c=>exact⟨[.slice a k c],fun b=>⟨fun⟨u,d,q⟩=>⟨rfl,by rw[cX.1 d] at q; exact q⟩,fun q=>⟨_,.head _,q.2⟩⟩⟩
     |map r=>exact⟨[.map r],fun b=>⟨fun⟨u,d,q⟩=>⟨rfl,by rw[cX.1 d] at q; exact q⟩,fun q=>⟨_,.head _,q.2⟩⟩⟩
     |_=>exact⟨[],fun b=>⟨fun⟨u,d,_⟩=>(by cases d),fun q=>q.2.elim⟩⟩
   refine⟨l++m,fun b=>⟨fun⟨u,d,q⟩=>?_,fun⟨i,hi,e,f⟩=>?_⟩⟩
   ·rcases cR.1 d with d|d
    ·obtain⟨i,hi,e⟩:=(j b).1 ⟨u,d,q⟩;exact⟨i,by omega,e⟩
    ·exact⟨n,by omega,(t b).1 ⟨u,d,q⟩⟩
   ·rcases gH.1 hi with h1|rfl
    ·obtain⟨u,d,q⟩:=(j b).2 ⟨i,h1,e,f⟩;exact⟨u,dU _ d,q⟩
    ·obtain⟨u,d,q⟩:=(t b).2 ⟨e,f⟩;exact⟨u,dI _ d,q⟩
 obtain⟨l,j⟩:=o h.length;refine⟨l.toArray,fun b=>⟨fun q=>?_,fun⟨id,e,f⟩=>?_⟩⟩
 ·obtain⟨id,_,e,f⟩:=(j b).1 (by simpa using q);exact⟨id,e,f⟩
 ·have s:id<h.length:=by
   rcases dC id h.length with h'|h'
   ·exact h'
   ·letI:Ð:=Gh fun _=>False
    rw[FP _ _ h'] at e; cases e
  simpa using(j b).2 ⟨id,s,e,f⟩
def kh {w:World} {l:Nat} {o':Obj} {c:Loop} (d:w.heap[l]?=some (.loop c)) (b:Nat) (o:Obj) (hb:w.heap[b]?=some o) (hd:Ie o=true\/b≠l):(w.putObj l o').heap[b]?=some o:=by
 have:b≠l:=fun e=>by
  subst e;rcases hd with hd|hd
  ·rw[d] at hb; cases hb; cases hd
  ·exact hd rfl
 rw[World.putObj_heap_other this]; exact hb
def YP {w:World} {l:Nat} {o':Obj} {d:Loop} (e:w.heap[l]?=some (.loop d)) (c:ë.Φ w) (b:Nat) (hb:b<ë.n):(w.putObj l o').heap[b]?=w.heap[b]?:=by
 obtain⟨o,h1,h2⟩:=ë.dat w c b hb;rw[h1]; exact kh e b o h1 (.inl h2)
def RJ.round {E:Env ρ} {N:Nat} {call:AS Nat->Bool->Nat->AS AV->AS Blk->(AV->AS Blk->AN ρ)->AN ρ} (hEnv:∀[Ð],kR E->jS E N call) (hDraw:∀[Ð],jS E N call->nh E N call) (L:x.path.length+2=N) (hy:@kR _ g ρ E)
 {gop:Operand} {ps:Array Tmp} {A Bd:Code} {p0:Tmp} (hps:ps.toList=[p0]) (hL:∀[Ð],kR E->∀z∈Þ x.bid A++Þ x.bid Bd,ng E x.path x.fid z.1 z.2)
 (hag:x.it.et.isAgg=false) (htm:∀p v v',(ą x.head x.cs x.vs p v').t=(ą x.head x.cs x.vs p v).t) (hst:∀p v,(ą x.head x.cs x.vs p v).t.all (st3 x.pin)=true)
 (hlen:∀v,x.pin<=(ą x.head x.cs x.vs p v).h.length)
 (law:∀p v y (k:Val (tyL x.vs)->AN ρ),XQ E call x.fid x.path x.pin x.bid (.rf gop ps A Bd) (ą x.head x.cs x.vs p v) (enc x.it.et y) (fun S=>match pn x.head x.pin x.cs x.vs S with
  |some (p',v)=>atP p k p' v
  |none=>none)=x.bF p v y k)
 {I:FuncId} {dn:Nat} {l:Nat} (hl1:W1.heap[l]?=some (.loop {state:=.ready,pending:=none,fn:=I,tmps:=a.tmps,params:=ps,assign:=A,body:=Bd,defers:=dn})) (hgl:g.B<=l) (hgB:g.B<=W1.heap.size) (ht1:∃v,t1=(ą x.head x.cs x.vs p v).t) (htl:t1.length<=a.tmps.size)
 {O X:Nat->Prop} {pre:AS (Val x.it.et)} {y:Val x.it.et} {u:Value} {W:World} (H:RJ g x ν h p xs Kf r ν1 h1 a t1 W1 O X pre W) (hOX:∀b,O b->X b) (hXs:∀b,X b->b<W.heap.size) (hpre:pre++[y] <+: xs) (hcr:CR W X x.it.et y [u]) :
 YieldAt Fence.wide 0 E.P l #[u] W fun e W'=>e=.returned (.bool true)/\W'.os=W.os/\W'.tape=W.tape/\W'.output=W.output/\W.heap.size<=W'.heap.size /\
  ∃us,(∀b,b<W.heap.size->¬O b->W'.heap[b]?=W.heap[b]?/\¬ę (.agg us) b)/\(∀b,ę (.agg us) b->∃o,W'.heap[b]?=some o/\Ie o=true)/\RJ g x ν h p xs Kf r ν1 h1 a t1 W1 (ę (.agg us)) (fun b=>(X b/\¬O b)\/ę (.agg us) b) (pre++[y]) W':=by
 obtain⟨e1,e2,e3,e4,e5,ν',v',suf,q1,q2,q3,q4,q5,q6,q7,q8⟩:=H
 -- what is yielded is what comes next
 obtain⟨m,rfl⟩:∃m,suf=y::m:=by
  obtain⟨s,hs⟩:=hpre;rw[q1,dj] at hs;exact⟨s,(List.append_cancel_left hs).symm⟩
 have hl:W.heap[l]?=_:=e5 l _ hl1 rfl;obtain⟨GX,hGX⟩:∃GX:Nat->Prop,GX=fun k=>X k/\¬O k/\k<W.heap.size:=⟨_,rfl⟩;rw[<-hGX] at q4 q5
 letI gr:Ð:=g.re GX [] (some l) W.heap.size
 have hyr:kR E:=hy;have hE:=hEnv hyr;have hD:=hDraw hE;obtain⟨S,hS⟩:∃S,S=ą x.head x.cs x.vs p v':=⟨_,rfl⟩
 have hSt:S.t=t1:=by obtain⟨v0,h0⟩:=ht1; rw[hS,h0]; exact htm p v0 v'
 have hlen':x.pin<=S.h.length:=by rw[hS]; exact hlen v'
 rw[<-hS] at q3 q4 q5 q6 q7 q8;have H0:HR ν' S.h W:=HR.re (g:=g.re GX [] none 0) q4
 have V0:∀i,VR ν' S.h W (lk S.t i) (a.tmps.getD i undef):=fun i=>by rw[hSt]; exact q5 i
 have avX:∀b,Av ν' S.h b->X b:=fun b hb=>by
  rcases hb with hb|hb
  ·exact hOX b ((q3 b).2 hb)
  ·have hb:GX b:=hb;rw[hGX] at hb; exact hb.1
 have hu:VR ν' S.h W (enc x.it.et y) u:=aiK hag (CR.mono avX hcr);have fr0:∀(W2:World) (r2:Loop),W2.heap[l]?=some (.loop r2)->W.heap.size<=W2.heap.size->Fr W2 []:=fun W2 r2 h2 h3=>⟨⟨[],rfl,fB,fun _ q=>(by cases q)⟩,fun l' e=>by cases e; exact⟨r2,h2⟩,dc hgB e4,h3⟩
 have sim0:Sim ν' {t:=upd S.t p0 (enc x.it.et y),h:=S.h} {tmps:=a.tmps.setIfInBounds p0 u,defers:=[]} W:=by
  have s0:Sim ν' S {tmps:=a.tmps,defers:=[]} W:=⟨fr0 W _ hl (cJ _),by rw[hSt]; exact htl,V0,H0⟩;exact s0.put (Ev.refl _ _ _ _) H0 (some p0) hu
 -- the law
 have n:=law p v' y (fun v=>adD (x.bF p) m v Kf);rw[show x.bF p v' y (fun v=>adD (x.bF p) m v Kf)=some r from q2,<-hS] at n;unfold XQ at n;simp only[hps] at n;have hLr:∀z∈Þ x.bid A++Þ x.bid Bd,ng E x.path x.fid z.1 z.2:=hL hyr;have hgo:=rP hE L A x.bid _ _ ν' _ W (fun _=>hD) (fun z hz=>hLr z (List.mem_append_left _ hz)) n sim0 hlen'
 have htm0:((ps.zip #[u]).foldl (fun t (p,v)=>t.setIfInBounds p v) a.tmps)=a.tmps.setIfInBounds p0 u:=by
  have:ps=#[p0]:=by rw[<-dK,hps]
  rw[this]; simp
 refine ⟨_, _, _, _, run_yield hl (by have : ps = #[p0] := by (rw [<- dK, hps])
                                      rw[this]; rfl),?_⟩
 rw[htm0];refine roundIn_of_wpIn (F:=Fence.wide) trivial (wpIn_mono (show A.wpIn (Fence.wide.inRound l) 0 E.P _ _ W from hgo) fun e aA WA hA=>?_);obtain⟨V,SA,sA,f,lnA,ddA,kA⟩:=hA
 cases e with
 |normal =>
  simp only at kA;have R:WA.heap[l]?=some (.loop _):=H0.nd f l _ hl rfl;refine⟨_,run_beginRound R rfl,?_⟩;have d:jR gr V SA.h WA gr.G (WA.putObj l (.loop {state:=.busy,pending:=none,fn:=I,tmps:=a.tmps,params:=ps,assign:=A,body:=Bd,defers:=dn})):=jR.nds rfl rfl rfl (by simp) fun b o hb hd=>kh R b o hb (hd.imp id fun hlt=>by have:b<g.B:=hlt; omega);obtain⟨Wb,hWb⟩:∃Wb,Wb=WA.putObj l (.loop {state:=.busy,pending:=none,fn:=I,tmps:=a.tmps,params:=ps,assign:=A,body:=Bd,defers:=dn}):=⟨_,rfl⟩;rw[<-hWb] at d ⊢
  have hlb:Wb.heap[l]?=some (.loop {state:=.busy,pending:=none,fn:=I,tmps:=a.tmps,params:=ps,assign:=A,body:=Bd,defers:=dn}):=by rw[hWb]; exact World.putObj_heap_same (à R)
  have sB:Sim V SA aA Wb:=by
   refine⟨?_,sA.len,fun i=>VR.step (g:=gr) (D:=[]) (Q:=some l) (M:=W.heap.size) d (sA.tmps i),HR.step (g:=gr) (D:=[]) (Q:=some l) (M:=W.heap.size) d (fun b hb=>df (sA.heap.ghL b hb) d.size) (fun b ⟨i,hi,hb⟩=>sA.heap.ghG i b hi hb) sA.heap⟩;obtain⟨⟨ms,m1,m2,m3⟩,_,m4,m5⟩:=sA.defers;refine⟨⟨ms,m1,m2,fun k hk=>⟨?_,(m3 k hk).2⟩⟩,fun l' e=>by cases e; exact⟨_,hlb⟩,m4,dc m5 d.size⟩;rw[hWb];exact kh R k _ (m3 k hk).1 (.inr fun e=>by have hk0:=(m3 k hk).1; rw[e,R] at hk0; cases hk0)
  have hgo2:=rP hE L Bd x.bid _ _ V _ Wb (fun _=>hD) (fun z hz=>hLr z (dI _ hz)) kA sB lnA;refine wpIn_mono (show Bd.wpIn (Fence.wide.inRound l) 0 E.P _ _ Wb from hgo2) fun e aC WC hC=>?_;obtain⟨νC,SC,sC,j,lnC,ddC,K⟩:=hC
  cases e with
  |normal =>
   simp only at K
   split at K<;>try (cases K; done)
   rename_i p' Y hm;obtain⟨hp',K⟩:=aha K;subst hp';obtain⟨U,sD,evD,lnD,ddD⟩:=sq _ _ _ _ _ _ _ νC aC WC hm sC;have C:WC.heap[l]?=some (.loop _):=sB.heap.nd j l _ hlb rfl;have hrun:=run_endRound (P:=E.P) none C;obtain⟨J,c⟩:∃J,J=WC.putObj l (.loop {state:=.ready,pending:=none,fn:=I,tmps:=a.tmps,params:=ps,assign:=A,body:=Bd,defers:=dn}):=⟨_,rfl⟩;refine⟨_,J,by rw[c]; exact hrun,rfl,?_⟩;have hWs:W.heap.size<=WC.heap.size:=dc f.size (dc d.size j.size)
   have s4:J.heap.size=WC.heap.size:=by rw[c]; simp
   have h4l:J.heap[l]?=some (.loop {state:=.ready,pending:=none,fn:=I,tmps:=a.tmps,params:=ps,assign:=A,body:=Bd,defers:=dn}):=by rw[c]; exact World.putObj_heap_same (à C)
   have h4o:∀b,b≠l->J.heap[b]?=WC.heap[b]?:=fun b hb=>by rw[c]; exact World.putObj_heap_other hb
   have hbo:∀b,b≠l->Wb.heap[b]?=WA.heap[b]?:=fun b hb=>by rw[hWb]; exact World.putObj_heap_other hb
   have T:∀b,b<W.heap.size->¬uM ν' S.h b->J.heap[b]?=W.heap[b]?/\¬uM U (ą x.head x.cs x.vs p' Y).h b:=fun b hb hn=>by
    obtain⟨k1,k2⟩:=f.keep b hb hn;obtain⟨k3,k4⟩:=j.keep b (df hb (dc f.size d.size)) k2;obtain⟨k5,k6⟩:=evD.keep b (df hb hWs) k4;refine⟨?_,k6⟩
    by_cases hbl:b=l
    ·rw[hbl,h4l,hl]
    ·rw[h4o b hbl,k3,hbo b hbl,k1]
   obtain⟨us,Z⟩:=ads U (ą x.head x.cs x.vs p' Y).h
   have o4:J.os=W.os/\J.tape=W.tape/\J.output=W.output:=by
    rw[c];exact⟨j.os.trans (d.os.trans f.os),j.tape.trans (d.tape.trans f.tape),j.output.trans (d.output.trans f.output)⟩
   have KG4:jR gr U (ą x.head x.cs x.vs p' Y).h WC (fun k=>((X k/\¬O k)\/ę (.agg us) k)/\¬ę (.agg us) k/\k<J.heap.size) J:=by
    refine⟨by rw[c]; rfl,by rw[c]; rfl,by rw[c]; rfl,fV s4.symm,fun b hb hn hx=>?_,fun b o hb ho _=>?_,fun b o hb ho hlt=>?_,fun hΦ b hb=>by rw[c]; exact YP C hΦ b hb⟩
    ·obtain⟨hx1,hx2,_⟩:=hx;obtain⟨hx3,hx4⟩:=hx1.resolve_right hx2;refine hn (.inr ?_);show GX b;rw[hGX]; exact⟨hx3,hx4,hXs b hx3⟩
    ·rw[c]; exact kh C b o hb (.inl ho)
    ·rw[c]; exact kh C b o hb (.inr fun e=>by have:b<g.B:=hlt; omega)
   refine⟨o4.1,o4.2.1,o4.2.2,by rw[s4]; exact hWs,us,fun b hb hn=>?_,fun b hb=>?_,?_⟩
   ·obtain⟨k1,k2⟩:=T b hb fun hL=>hn ((q3 b).2 hL);exact⟨k1,fun q=>k2 ((Z b).1 q)⟩
   ·obtain⟨o,k1,k2⟩:=sD.heap.dat ((Z b).1 hb);exact⟨o,by rw[c]; exact kh C b o k1 (.inl k2),k2⟩
   ·refine⟨o4.1.trans e1,o4.2.1.trans e2,o4.2.2.trans e3,dc e4 (by rw[s4]; exact hWs),fun k o hk ho=>?_,U,Y,m,by rw[q1,dj]; rfl,K,Z,?_,fun i=>?_,fun b hb hn=>?_,fun id hid=>?_,?_⟩
    ·by_cases hkl:k=l
     ·rw[hkl] at hk ⊢;rw[h4l,<-hl1,hk]
     ·rw[h4o k hkl];have k1:=H0.nd f k o (e5 k o hk ho) ho;have k2:Wb.heap[k]?=some o:=(hbo k hkl).trans k1;exact sB.heap.nd j k o k2 ho
    ·exact HR.step (g:=gr) (D:=[]) (Q:=none) (M:=0) KG4 (fun b hb=>hb.2.2) (fun b hl hb=>hb.2.1 ((Z b).2 hl)) sD.heap
    ·have hs3:st3 x.pin (lk t1 i)=true:=by
      rw[<-hSt,hS];exact lk_all rfl _ (hst p' v') i
     have v1:VR ν' S.h W (lk t1 i) (a.tmps.getD i undef):=by rw[<-hSt]; exact V0 i
     have v2:=VR.stab f hs3 v1;have v3:VR V SA.h Wb (lk t1 i) (a.tmps.getD i undef):=VR.step (g:=gr) (D:=[]) (Q:=some l) (M:=W.heap.size) d v2;have v4:=VR.stab evD hs3 (VR.stab j hs3 v3);exact VR.step (g:=gr) (D:=[]) (Q:=none) (M:=0) KG4 v4
    ·exact(T b (df hb e4) (q6 b hb hn)).2
    ·exact Blk.next_trans (Blk.next_trans (Blk.next_trans (q7 id hid) (f.blk id hid)) (j.blk id hid)) (evD.blk id hid)
    ·exact((q8.trans ddA (cJ _)).trans ddC (cJ _)).trans ddD (cJ _)
  |exit id=>cases K
  |goto l=>cases K
  |ret=>cases K
  |panic ch=>cases K
  |outgrown=>cases K
 |exit id=>cases kA
 |goto l=>cases kA
 |ret=>cases kA
 |panic ch=>cases kA
 |outgrown=>cases kA
def Uj (T:Tpl) (cs vs:AS Ty) (p:Val (tyL cs)) (v:Val (tyL vs)):(ą T cs vs p v).h.length=T.heap.length:=by
 letI:Ð:=Gh fun _=>False
 unfold ą;exact wn _ _
def ab4 {E:Env ρ} {N:Nat} {call:AS Nat->Bool->Nat->AS AV->AS Blk->(AV->AS Blk->AN ρ)->AN ρ} (hEnv:∀[Ð],kR E->jS E N call) (hDraw:∀[Ð],jS E N call->nh E N call) (hpath:x.path.length+2=N) (hy:@kR _ g ρ E)
 {gop:Operand} {ps:Array Tmp} {A Bd:Code} (hL:∀[Ð],kR E->∀z∈Þ x.bid A++Þ x.bid Bd,ng E x.path x.fid z.1 z.2)
 (hit:Vm E.P x.it) (htm:∀p v v',(ą x.head x.cs x.vs p v').t=(ą x.head x.cs x.vs p v).t) (hst:∀p v,(ą x.head x.cs x.vs p v).t.all (st3 x.pin)=true)
 (law:∀p v y (k:Val (tyL x.vs)->AN ρ),XQ E call x.fid x.path x.pin x.bid (.rf gop ps A Bd) (ą x.head x.cs x.vs p v) (enc x.it.et y) (fun S=>match pn x.head x.pin x.cs x.vs S with
  |some (p',v)=>atP p k p' v
  |none=>none)=x.bF p v y k) (hps:∃p0,ps.toList=[p0])
 (hplain : ∀ (f : Nat) (fn : Func), E.P.funcs[f]? = some fn -> (fn.name == "runtime.NumGoroutine") = false)
 {m:Nat} {S:St} {K:Exit->St->AN ρ} {r:ρ} {ν:Nat->Value} {a:Act} {w:World} (e:rngK x m (ev S.t gop) S K=some r) (H:@Sim _ g ν S a w) (hm:m<=S.h.length) :
 (Code.rangeFunc gop ps A Bd).wpIn (@fen _ g) 0 E.P (@Xu _ g ρ m ν S.h w K r) a w:=by
 obtain⟨p0,hps⟩:=hps;unfold rngK at e
 split at e<;>try (cases e; done)
 rename_i hmp;have hmp:m<=x.pin:=eA hmp
 split at e<;>try (cases e; done)
 rename_i c id hg
 split at e<;>try (cases e; done)
 rename_i hcm;obtain rfl:=cZ hcm
 split at e<;>try (cases e; done)
 rename_i cs hl
 split at e<;>try (cases e; done)
 rename_i hchk;simp only[cM] at hchk;obtain⟨hown,hnr⟩:=hchk
 split at e<;>try (cases e; done)
 rename_i d hd
 split at e<;>try (cases e; done)
 rename_i p v hmt;simp only[Ä] at e
 split at e<;>try (cases e; done)
 rename_i xs hxs
 -- the iterator
 have hH:=@Sim.heap _ g _ _ _ _ H;have hbid:=@HR.blk _ g _ _ _ hH id;rw[hl] at hbid;obtain⟨b0,cb,te,hν,hb0,hcells⟩:=hbid;have hgv:@VR _ g ν S.h w (ev S.t gop) (a.eval gop):=@Ć _ g _ _ _ _ H gop;rw[hg] at hgv;obtain⟨fs,cps,hge,hfs,hcps⟩:=hgv
 have hfs0:fs=#[]:=by rw[<-dK]; exact hfs.nil_left
 obtain⟨uc,hu1,hu2⟩:=hcps.one
 have huc:uc=.pointer (some ⟨b0,0,none⟩):=by
  obtain⟨_,b',_,q1,q2⟩:=hu2;rw[hν] at q1; cases q1; exact q2
 have hcps0:cps=#[.pointer (some ⟨b0,0,none⟩)]:=by rw[<-dK,hu1,huc]
 rw[hfs0,hcps0] at hge
 -- the box is let go
 obtain⟨h0,hh0⟩:∃h0,h0=ì S.h id .dead:=⟨_,rfl⟩;have hid:id<S.h.length:=Ņ hl (by simp)
 letI g1:Ð:=g.re (ahI g b0) g.D g.Q g.M
 have H1:HR ν h0 w:=by rw[hh0]; exact aiQ hl hν hnr hH
 have sim1:Sim ν {t:=S.t.map (clr id),h:=h0} a w:=by
  refine⟨@Sim.defers _ g _ _ _ _ H,by rw[List.length_map]; exact @Sim.len _ g _ _ _ _ H,fun i=>?_,H1⟩;show VR ν h0 w (lk (S.t.map (clr id)) i) _;rw[ahF rfl,hh0];unfold clr
  split
  ·exact aiP hl hν ‹_› (@Sim.tmps _ g _ _ _ _ H i)
  ·trivial
 rw[<-hh0] at hmt;obtain⟨ν1,sim2,ev1,hp1,dd1⟩:=sq _ _ _ _ _ _ _ ν a w hmt sim1;obtain⟨S1,hS1⟩:∃S1,S1=ą x.head x.cs x.vs p v:=⟨_,rfl⟩;rw[<-hS1] at sim2 ev1 hp1 dd1
 have hlen:∀v,x.pin<=(ą x.head x.cs x.vs p v).h.length:=fun v'=>by rw[Uj,<-Uj x.head x.cs x.vs p v,<-hS1]; exact hp1
 have L01:∀b,uM ν1 S1.h b->uM ν h0 b:=fun b hb=>Classical.byContradiction fun hn=>(ev1.keep b (sim2.heap.lt hb) hn).2 hb
 have L0:∀b,uM ν h0 b->uM ν S.h b/\b≠b0:=fun b ⟨j,hj,ho⟩=>by
  rw[hh0,tg] at hj
  split at hj
  ·cases hj
  ·rename_i hne;refine⟨⟨j,hj,ho⟩,fun eb=>hne ⟨?_,hid⟩⟩;exact @HR.inj _ g _ _ _ hH j id b hj (by rw[hl]; rfl) ho (by rw[hν,eb]; rfl)
 have hb0L:uM ν S.h b0:=⟨id,by rw[hl]; rfl,by rw[hν]; rfl⟩
 -- what is known of the frame
 have hfr:=@Sim.defers _ g _ _ _ _ H;have hgBw:g.B<=w.heap.size:=dc hfr.2.2.1 hfr.2.2.2;refine wpIn_rangeFunc ?_;intro fn hfn
 -- the record
 obtain⟨l,marks,dn,W1,henter,hl1,hlw,hW1s,hW1o,hW1d,hmarks⟩:∃(l:Nat) (marks:AS Nat) (dn:Nat) (W1:World),(Instr.enterLoop fn a.tmps ps A Bd (@fen _ g).round).run E.P w=.ok (l,marks.map mk1) W1 /\
  W1.heap[l]?=some (.loop {state:=.ready,pending:=none,fn:=fn,tmps:=a.tmps,params:=ps,assign:=A,body:=Bd,defers:=dn})/\w.heap.size<=l/\w.heap.size<=W1.heap.size/\(W1.os=w.os/\W1.tape=w.tape/\W1.output=w.output)/\(∀b,b<w.heap.size->W1.heap[b]?=w.heap[b]?) /\
  (marks.Nodup/\∀k∈marks,W1.heap[k]?=some (.deferred (some []))/\w.heap.size<=k):=by
  have hro:(@fen _ g).round=g.Q:=rfl;rw[hro]
  cases hQ:g.Q with
  |none =>
   refine⟨w.heap.size+1,[w.heap.size],w.heap.size,_,run_enterLoop_outer _ _ _ _ _,?_,by omega,by simp; omega,⟨rfl,rfl,rfl⟩,fun b hb=>?_,by simp,fun k hk=>?_⟩
   ·have:=World.alloc_heap_new (w.alloc (.deferred (some []))) (.loop {state:=.ready,pending:=none,fn:=fn,tmps:=a.tmps,params:=ps,assign:=A,body:=Bd,defers:=w.heap.size})
    rwa [World.size_alloc] at this
   ·rw[RowKit.Below.heap_alloc _ _ _ (by simp; omega),RowKit.Below.heap_alloc _ _ _ hb]
   ·rw[cX.1 hk];exact⟨(RowKit.Below.heap_alloc _ _ _ (by simp)).trans (World.alloc_heap_new w _),cJ _⟩
  |some l0 =>
   obtain⟨r0,hr0⟩:=hfr.2.1 l0 hQ;refine⟨w.heap.size,[],r0.defers,_,run_enterLoop_inner hr0 _ _ _ _ _,World.alloc_heap_new _ _,cJ _,by simp,⟨rfl,rfl,rfl⟩,fun b hb=>RowKit.Below.heap_alloc _ _ _ hb,fB,fun k hk=>by cases hk⟩
 obtain⟨hmn,hmk⟩:=hmarks;have hlW1:l<W1.heap.size:=à hl1;have hold:∀(b:Nat) (o:Obj),w.heap[b]?=some o->W1.heap[b]?=some o:=fun b o hb=>(hW1d b (à hb)).trans hb
 -- what the loop's body gets
 obtain⟨us0,hus0⟩:=ads ν1 S1.h;obtain⟨Kf,hKf⟩:∃Kf:Val (tyL x.vs)->AN ρ,Kf=fun v=>K .normal (bif Nat.blt id x.pin then {t:=(ą x.head x.cs x.vs p v).t,h:=ì (ą x.head x.cs x.vs p v).h id (.cells (flat x.it.ct d))} else ą x.head x.cs x.vs p v):=⟨_,rfl⟩;rw[<-hKf] at e;have htl:S1.t.length<=a.tmps.size:=sim2.len
 letI gp:Ð:=⟨g.G,[],none,W1.heap.size,l,W1.heap.size,x.it.et,RJ g x ν S.h p xs Kf r ν1 S1.h a S1.t W1,fun O X X' pre W W' hJ hS=>RJ.st (dc hgBw hW1s) hJ hS⟩
 have hgl:g.B<=l:=dc hgBw hlw;have hgB1:g.B<=W1.heap.size:=dc hgBw hW1s;have hyp:@YldP _ gp E.P ⟨x.it.et,xs,false⟩:=⟨rfl,fun O X pre y u W hJ hOX hXs hpre hcr hB=>RJ.round hEnv hDraw hpath hy hps hL hit.agg htm hst hlen law hl1 hgl hgB1 ⟨v,by rw[hS1]⟩ htl hJ hOX hXs hpre hcr⟩
 -- the iterator's state
 obtain⟨νp,hνp⟩:∃νp:Nat->Value,νp=fun n=>if n=0 then .agg us0 else if n=1 then .pointer (some ⟨b0,0,none⟩) else undef:=⟨_,rfl⟩
 have n0:νp 0=.agg us0:=by rw[hνp]; rfl
 have n1:νp 1=.pointer (some ⟨b0,0,none⟩):=by rw[hνp]; rfl
 have Lp:∀k,uM νp (jE x.it d) k->ę (.agg us0) k\/k=b0:=by
  rintro k ⟨i,hi,ho⟩
  match i,hi,ho with
  |0,_,ho=>rw[n0] at ho; exact .inl ho
  |1,_,ho=>rw[n1] at ho; cases ho; exact .inr rfl
  |i+2,hi,_=>cases hi
 have OL:∀k,ę (.agg us0) k->uM ν S.h k/\k≠b0:=fun k hk=>L0 k (L01 k ((hus0 k).1 hk))
 have Avp:∀k,@Av _ gp νp (jE x.it d) k->@Av _ g ν S.h k:=fun k hk=>by
  rcases hk with hk|hk
  ·rcases Lp k hk with hk|rfl
   ·exact .inl (OL k hk).1
   ·exact .inl hb0L
  ·exact .inr hk
 have hcr0:CR w (@Av _ g ν S.h) x.it.ct d cb.toList:=Ĝ hd (ò.mono (fun _ _ hx=>@VR1.data _ g _ _ _ _ _ hx.1) hcells);have hcr1:CR W1 (@Av _ gp νp (jE x.it d)) x.it.ct d cb.toList:=CR.kx ⟨hW1s,fun b _ hn hx=>hn (Avp b hx),fun b o hb _ _=>hold b o hb⟩ hcr0
 have hJ0:RJ g x ν S.h p xs Kf r ν1 S1.h a S1.t W1 (ę (νp 0)) (@Av _ gp νp (jE x.it d)) [] W1:=by
  have KG:jR g1 ν1 S1.h w (fun k=>@Av _ gp νp (jE x.it d) k/\¬ę (νp 0) k/\k<W1.heap.size) W1:=by
   refine⟨hW1o.1,hW1o.2.1,hW1o.2.2,hW1s,fun b hb hn hx=>?_,fun b o hb _ _=>hold b o hb,fun b o hb _ _=>hold b o hb,fun hΦ b hb=>hW1d b (by obtain⟨o,h1,_⟩:=ë.dat w hΦ b hb; exact à h1)⟩;obtain⟨hx1,hx2,_⟩:=hx;rcases hx1 with hx1|hx1
   ·rcases Lp b hx1 with q|rfl
    ·rw[n0] at hx2; exact hx2 q
    ·exact hn (.inr (.inr rfl))
   ·exact hn (.inr (.inl hx1))
  refine⟨rfl,rfl,rfl,cJ _,fun _ _ q _=>q,ν1,v,xs,rfl,e,fun k=>by rw[n0,<-hS1]; exact hus0 k,?_,fun i=>?_,fun b _ hn hL2=>?_,fun i _=>?_,?_⟩
  ·rw[<-hS1];exact HR.step (g:=g1) (D:=[]) (Q:=none) (M:=0) KG (fun b hb=>hb.2.2) (fun b hl2 hb=>hb.2.1 (by rw[n0]; exact(hus0 b).2 hl2)) (@Sim.heap _ g1 _ _ _ _ sim2)
  ·rw[<-hS1];exact VR.step (g:=g1) (D:=[]) (Q:=none) (M:=0) KG (@Sim.tmps _ g1 _ _ _ _ sim2 i)
  ·rw[<-hS1] at hL2;exact hn (L0 b (L01 b hL2)).1
  ·rw[<-hS1]; exact Blk.next_refl _ _ _
  ·rw[<-hS1]; exact Dd.refl _ _
 have Hp:@HR _ gp νp (jE x.it d) W1:=by
  refine @HR.mk _ gp _ _ _ (fun i=>?_) (fun i j b hi hj hbi hbj=>?_) (fun b hb=>df (@HR.ghlt _ g _ _ _ hH b hb) hW1s) (fun i b hi hbi hg=>?_) (ë.keep _ _ (@HR.glob _ g _ _ _ hH) fun b hb=>hW1d b (by obtain⟨o,h1,_⟩:=ë.dat w (@HR.glob _ g _ _ _ hH) b hb; exact à h1)) (fun b hb hL=>by
   rcases Lp b hL with q|rfl
   ·exact @HR.globL _ g _ _ _ hH b hb (OL b q).1
   ·exact @HR.globL _ g _ _ _ hH b hb hb0L)
  ·match i with
   |0 =>
    refine⟨us0,n0,fun b hb=>?_,rfl,hJ0⟩;rw[n0] at hb;obtain⟨o,q1,q2⟩:=@HR.dat _ g _ _ _ hH b (OL b hb).1;exact⟨o,hold b o q1,q2⟩
   |1=>exact⟨b0,cb,te,n1,hold _ _ hb0,@nP _ gp νp (jE x.it d) W1 _ _ _ hcr1⟩
   |i+2=>exact trivial
  ·match i,j,hi,hj,hbi,hbj with
   |0,0,_,_,_,_=>rfl
   |1,1,_,_,_,_=>rfl
   |0,1,_,_,hbi,hbj=>rw[n0] at hbi; rw[n1] at hbj; cases hbj; exact absurd rfl (OL _ hbi).2
   |1,0,_,_,hbi,hbj=>rw[n1] at hbi; rw[n0] at hbj; cases hbi; exact absurd rfl (OL _ hbj).2
   |i+2,_,hi,_,_,_=>cases hi
   |_,j+2,_,hj,_,_=>cases hj
  ·have hg:g.G b\/ë.E b:=hg;have key:∀k,uM ν S.h k->¬(g.G k\/ë.E k):=fun k ⟨j,hj,ho⟩=>@HR.ghne _ g _ _ _ hH j k hj ho
   match i,hi,hbi with
   |0,_,hbi=>rw[n0] at hbi; exact key b (OL b hbi).1 hg
   |1,_,hbi=>rw[n1] at hbi; cases hbi; exact key _ hb0L hg
   |i+2,hi,_=>cases hi
 have hargs:ò (@VR _ gp νp (jE x.it d) W1) YL [.func (.yield l) #[] #[],.pointer (some ⟨b0,0,none⟩)]:=⟨rfl,⟨flat x.it.ct d,b0,rfl,n1,rfl⟩,trivial⟩;obtain⟨⟨gfn,gc,hgf,hgc⟩,hcall⟩:=hit.ok gp rfl d xs hxs hyp νp W1 _ (cJ _) Hp hargs;refine⟨l,marks.map mk1,W1,{target:=.fn (.func x.it.clo) #[.pointer (some ⟨b0,0,none⟩)],args:=#[.func (.yield l) #[] #[]]},W1,x.it.clo,#[.func (.yield l) #[] #[],.pointer (some ⟨b0,0,none⟩)],W1,henter,?_,fun f' _=>trivial,?_,fun q=>(by cases q),?_⟩
 ·simp only[resolve,rangeCall,hge];simp[go_sem]
 ·simp[invoke,callFunc,Sem.run_bind,run_program,Result.andThen_ok,hgf,hgc,hplain x.it.clo gfn hgf];simpa using hplain x.it.clo gfn hgf
 refine CallsIn.mono (show CallsIn (@fen _ g) 0 E.P _ _ _ _ from hcall) fun en W2 hw=>?_;obtain⟨νq,hq,u,rfl,Hq,evq,hacc,csq,hcsq,hdq⟩:=hw
 -- what the loop leaves
 have hBq:=@HR.blk _ gp _ _ _ Hq 0;rw[hacc] at hBq;obtain⟨us2,k1,k2,k3,k4⟩:=hBq;have k4:RJ g x ν S.h p xs Kf r ν1 S1.h a S1.t W1 (ę (νq 0)) (@Av _ gp νq hq) xs W2:=k4;obtain⟨j1,j2,j3,j4,j5,νe,ve,suf,q1,q2,q3,q4,q5,q6,q7,q8⟩:=k4
 have hsuf:suf=[]:=by
  have:=congrArg List.length q1;rw[cN] at this;exact dg.1 (by omega)
 rw[hsuf] at q2;have hke:Kf ve=some r:=q2;have hl2:W2.heap[l]?=_:=j5 l _ hl1 rfl;obtain⟨W3,hW3⟩:∃W3,W3=W2.putObj l (.loop {state:=.exhausted,pending:=none,fn:=fn,tmps:=a.tmps,params:=ps,assign:=A,body:=Bd,defers:=dn}):=⟨_,rfl⟩;refine⟨none,W3,by rw[hW3]; exact run_endLoop (P:=E.P) hl2 (by simp),?_⟩;obtain⟨Se,hSe⟩:∃Se,Se=ą x.head x.cs x.vs p ve:=⟨_,rfl⟩;rw[<-hSe] at q3 q4 q5 q6 q7 q8
 have s3:W3.heap.size=W2.heap.size:=by rw[hW3]; simp
 have h3o:∀b,b≠l->W3.heap[b]?=W2.heap[b]?:=fun b hb=>by rw[hW3]; exact World.putObj_heap_other hb
 have hG:∀b,g.G b->@Av _ gp νq hq b/\¬ę (νq 0) b/\b<W2.heap.size:=fun b hb=>⟨.inr hb,fun ho=>@HR.ghG _ gp _ _ _ Hq 0 b (by rw[hacc]; rfl) ho hb,@HR.ghL _ gp _ _ _ Hq b hb⟩;obtain⟨G2,hG2⟩:∃G2:Nat->Prop,G2=fun k=>@Av _ gp νq hq k/\¬ę (νq 0) k/\k<W2.heap.size:=⟨_,rfl⟩;rw[<-hG2] at q4 q5
 have hGs:∀b,g.G b->G2 b:=fun b hb=>by rw[hG2]; exact hG b hb
 have KG3:jR (g.re G2 [] none 0) νe Se.h W2 G2 W3:=by
  refine⟨by rw[hW3]; rfl,by rw[hW3]; rfl,by rw[hW3]; rfl,fV s3.symm,fun b _ hn hb=>hn (.inr hb),fun b o hb ho _=>?_,fun b o hb ho hlt=>?_,fun hΦ b hb=>by rw[hW3]; exact YP hl2 hΦ b hb⟩
  ·rw[hW3]; exact kh hl2 b o hb (.inl ho)
  ·rw[hW3]; exact kh hl2 b o hb (.inr fun q=>by have:b<g.B:=hlt; omega)
 have H3:@HR _ (g.re G2 [] none 0) νe Se.h W3:=HR.step (g:=g.re G2 [] none 0) (D:=[]) (Q:=none) (M:=0) KG3 (fun b hb=>by rw[hG2] at hb; have:=hb.2.2; omega) (fun b hb hg=>by rw[hG2] at hg; exact hg.2.1 ((q3 b).2 hb)) q4;have nd3:∀(k:Nat) (o:Obj),W1.heap[k]?=some o->Ie o=false->k≠l->W3.heap[k]?=some o:=fun k o hk ho hkl=>(h3o k hkl).trans (j5 k o hk ho)
 have hSt:Se.t=S1.t:=by rw[hSe,hS1]; exact htm p v ve
 have V3:∀i,@VR _ (g.re G2 [] none 0) νe Se.h W3 (lk Se.t i) (a.tmps.getD i undef):=fun i=>by rw[hSt]; exact VR.step (g:=g.re G2 [] none 0) (D:=[]) (Q:=none) (M:=0) KG3 (q5 i)
 have hfr3:@Fr _ g W3 (marks.map mk1++a.defers):=by
  obtain⟨⟨ms,m1,m2,m3⟩,m4,m5,m6⟩:=hfr;have lt3:∀k∈ms,k<w.heap.size:=fun k hk=>à (m3 k hk).1;refine⟨⟨marks++ms,?_,?_,fun k hk=>?_⟩,fun l' hl'=>?_,m5,by omega⟩
  ·rw[m1,gD,dj]
  ·refine List.nodup_append.2 ⟨hmn,m2,fun k1 h1 k2 h2 q=>?_⟩;have:=(hmk k1 h1).2;have:=lt3 k2 h2;omega
  ·rcases cR.1 hk with hk|hk
   ·obtain⟨z1,z2⟩:=hmk k hk;exact⟨nd3 k _ z1 rfl (fun q=>by rw[q,hl1] at z1; cases z1),dc m6 z2⟩
   ·exact⟨nd3 k _ (hold _ _ (m3 k hk).1) rfl (fun q=>by have:=lt3 k hk; omega),(m3 k hk).2⟩
  ·obtain⟨r',hr'⟩:=m4 l' hl';exact⟨r',nd3 l' _ (hold _ _ hr') rfl (fun q=>by have:=à hr'; omega)⟩
 have ple:x.pin<=Se.h.length:=by rw[hSe]; exact hlen ve
 have blk3:∀i,i<m->i≠id->(lkB S.h i).next ν νe i (lkB Se.h i):=fun i hi hne=>by
  have z1:lkB h0 i=lkB S.h i:=by rw[hh0]; exact Ó _ hne
  have z2:=ev1.blk i (df hi hmp);rw[z1] at z2;exact Blk.next_trans z2 (q7 i (df hi hmp))
 have dd3:∀j,j<m->lkB S.h j=.dead->j≠id/\lkB Se.h j=.dead:=fun j hj hd2=>by
  have hne:j≠id:=fun q=>by rw[q,hl] at hd2; cases hd2
  have z1:lkB h0 j=.dead:=by rw[hh0,Ó _ hne]; exact hd2
  exact⟨hne,q8 j (by omega) (dd1 j (by omega) z1)⟩
 have keep3:∀b,b<w.heap.size->¬uM ν S.h b->W3.heap[b]?=w.heap[b]?:=fun b hb hn=>by
  rw[h3o b (by omega),(evq.keep b (by omega) fun hL2=>?_).1,hW1d b hb];rcases Lp b hL2 with q|rfl
  ·exact hn (OL b q).1
  ·exact hn hb0L
 have oss:W3.os=w.os/\W3.tape=w.tape/\W3.output=w.output:=by
  rw[hW3];exact⟨j1.trans hW1o.1,j2.trans hW1o.2.1,j3.trans hW1o.2.2⟩
 have sz3:w.heap.size<=W3.heap.size:=by omega
 rw[hKf] at hke;simp only[<-hSe] at hke
 by_cases hip:id<x.pin
 ·-- the box is there again
  have hbt:Nat.blt id x.pin=true:=Nat.ble_eq_true_of_le hip;rw[hbt] at hke;have hd0:lkB Se.h id=.dead:=q8 id hip (dd1 id hip (by rw[hh0]; exact Ü _ hid));have hidl:id<Se.h.length:=df hip ple;have hq1:=evq.blk 1 (by omega)
  have hν1:νq 1=.pointer (some ⟨b0,0,none⟩):=by
   have:(lkB (jE x.it d) 1)=.cells (flat x.it.ct d):=rfl;rw[this] at hq1;exact hq1.2.trans n1
  have hq1b:=@HR.blk _ gp _ _ _ Hq 1;rw[hcsq] at hq1b;obtain⟨b1,c1,e1',z1,z2,z3⟩:=hq1b;rw[hν1] at z1;cases z1
  have lv1:(lkB hq 1).live=true:=by rw[hcsq]; rfl
  have lv0:(lkB hq 0).live=true:=by rw[hacc]; rfl
  have own1:ę (νq 1) b0:=by rw[hν1]; rfl
  have hb02:G2 b0:=by
   rw[hG2];exact⟨.inl ⟨1,lv1,own1⟩,fun q=>absurd (@HR.inj _ gp _ _ _ Hq 0 1 b0 lv0 lv1 q own1) (by omega),à z2⟩
  have hgb:¬(g.G b0\/ë.E b0):=fun q=>@HR.ghne _ g _ _ _ hH id b0 (by rw[hl]; rfl) (by rw[hν]; rfl) q
  have hlb:b0≠l:=fun q=>by rw[q,hl2] at z2; cases z2
  have hw3:W3.heap[b0]?=some (.cells c1 e1' (0,0)):=(h3o b0 hlb).trans z2;have hcr2:CR W2 (@Av _ gp νq hq) x.it.ct d c1.toList:=Ĝ hdq (ò.mono (fun _ _ hx=>@VR1.data _ gp _ _ _ _ _ hx.1) z3)
  have hcr3:CR W3 (@Av _ (g.re g.G g.D g.Q g.M) (í νe id (.pointer (some ⟨b0,0,none⟩))) (ì Se.h id (.cells (flat x.it.ct d)))) x.it.ct d c1.toList:=by
   refine CR.kx ⟨fV s3.symm,fun b _ hn hx=>hn ?_,fun b o hb ho _=>by rw[hW3]; exact kh hl2 b o hb (.inl ho)⟩ hcr2;rcases hx with⟨j,hj,ho⟩|hx
   ·by_cases q:j=id
    ·rw[q,Í] at ho; cases ho; exact .inl ⟨1,lv1,own1⟩
    ·rw[Ó _ q] at hj; rw[ý _ _ q] at ho;exact .inl ⟨0,lv0,(q3 b).2 ⟨j,hj,ho⟩⟩
   ·exact .inr hx
  have hrE:=ai5 (g:=g) (D:=g.D) (Q:=g.Q) (M:=g.M) hd0 hidl hGs hb02 hgb (fun q=>@HR.globL _ g _ _ _ hH b0 q hb0L) hw3 (@nP _ (g.re g.G g.D g.Q g.M) _ _ _ _ _ _ hcr3) H3;refine⟨_,_,@Sim.mk _ g _ _ _ _ hfr3 (by show Se.t.length<=_; rw[hSt]; exact htl) (fun i=>ai4 (g:=g) (D:=g.D) (Q:=g.Q) (M:=g.M) hd0 hidl hGs hb02 (V3 i)) (HR.er hrE),⟨oss.1,oss.2.1,oss.2.2,sz3,fun b hb hn=>⟨keep3 b hb hn,?_⟩,fun i hi=>?_⟩,?_,fun j hj hd2=>?_,hke⟩
  ·rintro⟨j,hj,ho⟩
   by_cases q:j=id
   ·rw[q,Í] at ho; cases ho; exact hn hb0L
   ·have hj:(lkB (ì Se.h id (.cells (flat x.it.ct d))) j).live=true:=hj;rw[Ó _ q] at hj; rw[ý _ _ q] at ho;exact q6 b (by omega) hn ⟨j,hj,ho⟩
  ·show(lkB S.h i).next ν _ i (lkB (ì Se.h id (.cells (flat x.it.ct d))) i)
   by_cases q:i=id
   ·subst q;rw[Ü _ hidl,hl];exact⟨⟨_,rfl⟩,by rw[Í,hν]⟩
   ·rw[Ó _ q];have z:=blk3 i hi q;have e:=ý νe (.pointer (some ⟨b0,0,none⟩)) q;revert z
    cases lkB S.h i<;>intro z
    ·trivial
    ·exact⟨z.1,e.trans z.2⟩
    ·obtain⟨g',fz,xs',y1,y2,y3⟩:=z;exact⟨g',fz,xs',y1,y2,fun y4=>⟨e.trans (y3 y4).1,(y3 y4).2⟩⟩
    ·exact⟨z.1,e.trans z.2⟩
    ·obtain⟨g',xs',y1,y2,y3⟩:=z;exact⟨g',xs',y1,y2,fun y4=>⟨e.trans (y3 y4).1,(y3 y4).2⟩⟩
    ·exact z
    ·exact⟨z.1,e.trans z.2⟩
    ·exact⟨z.1,e.trans z.2⟩
  ·show m<=(ì Se.h id (.cells (flat x.it.ct d))).length;rw[Ï]; omega
  ·obtain⟨hne,hde⟩:=dd3 j hj hd2;show lkB (ì Se.h id (.cells (flat x.it.ct d))) j=.dead;rw[Ó _ hne]; exact hde
 ·have hbt:Nat.blt id x.pin=false:=by
   cases hq:Nat.blt id x.pin with
   |false=>rfl
   |true=>exact absurd (eA hq) hip
  rw[hbt] at hke;have KGl:jR (g.re G2 [] none 0) νe Se.h W3 g.G W3:=jR.less hGs;refine⟨νe,Se,@Sim.mk _ g _ _ _ _ hfr3 (by rw[hSt]; exact htl) (fun i=>VR.step (g:=g.re G2 [] none 0) (D:=g.D) (Q:=g.Q) (M:=g.M) KGl (V3 i)) (HR.step (g:=g.re G2 [] none 0) (D:=g.D) (Q:=g.Q) (M:=g.M) KGl (fun b hb=>by have:=(hG b hb).2.2; omega) (fun b hb hg=>(hG b hg).2.1 ((q3 b).2 hb)) H3),⟨oss.1,oss.2.1,oss.2.2,sz3,fun b hb hn=>⟨keep3 b hb hn,q6 b (by omega) hn⟩,fun i hi=>blk3 i hi (by omega)⟩,by omega,fun j hj hd2=>(dd3 j hj hd2).2,hke⟩
end
end
end Go.Am
end

noncomputable section
namespace Go.Am
variable [ë] [Ð]
section
variable {ρ:Type} {ν ν':Nat->Value} {h h':AS Blk} {w w':World} {P:Program}
structure ă (ρ:Type) where
 path:AS Nat
 fid:Nat
 bid:Nat
 L:Æ
 bF:Val (tyL L.cs)->Val (tyL L.vs)->(Val (tyL L.vs)->AN ρ)->((i:Nat)->Val (tyL (L.zs i))->AN ρ)->AN ρ
def eqL:AS Nat->AS Nat->Bool
 |[],[]=>true
 |a::l,b::m=>Nat.beq a b&&eqL l m
 |_,_=>false
def adJ (S:St):AS (ă ρ)->AS Nat->Nat->Nat->AN (ă ρ)
 |[],_,_,_=>none
 |x::l,path,fid,bid=>match Nat.beq x.bid bid&&(Nat.beq x.fid fid&&(eqL x.path path&&fitsS x.L S)) with
  |true=>some x
  |false=>adJ S l path fid bid
def lW [LC] (tab:AS (ă ρ)) (path:AS Nat) (fid bid m:Nat) (S:St) (K:Exit->St->AN ρ):AN ρ :=
 match adJ S tab path fid bid with
 |some x=>VJ x.L x.bF m S K
 |none=>none
structure JEnt where
 path:AS Nat
 fid:Nat
 rid:Nat
 pin:Nat
 tpl:Tpl
 vs:AS Ty
def aaJ:AS (Nat×ï)->Nat->AN ï
 |[],_=>none
 |x::l,f=>match Nat.beq x.1 f with
  |true=>some x.2
  |false=>aaJ l f
def ED:AS (Nat×Nat)->Nat->AN Nat
 |[],_=>none
 |x::l,s=>match Nat.beq x.1 s with
  |true=>some x.2
  |false=>ED l s
structure ă.Ok (E:Env ρ) (x:ă ρ):Prop where
 one:(((kP E.P x.fid).elim [] (Þ 0)).filter fun y=>Nat.beq y.1 x.bid).length=1
 law:∀p v kn kx,goC E (jm E (10-x.path.length / 2)) x.fid x.path x.L.pin x.bid (CS (kP E.P x.fid) x.bid) (ą x.L.head x.L.cs x.L.vs p v) (O3 x.L kn kx)=x.bF p v (kn p) (fun i=>kx i p)
omit [Ð] in
def Y4:∀{l m:AS Nat},eqL l m=true->l=m
 |[],[],_=>rfl
 |a::l,b::m,h=>by
  simp only[eqL,cM] at h;rw[cZ h.1,Y4 h.2]
 |[],_::_,h=>by cases h
 |_::_,[],h=>by cases h
omit [Ð] in
def OC:∀{tab:AS (ă ρ)} {path:AS Nat} {fid bid:Nat} {S:St} {x:ă ρ},adJ S tab path fid bid=some x->x∈tab/\x.path=path/\x.fid=fid/\x.bid=bid
 |[],_,_,_,_,_,h=>by cases h
 |y::tab,path,fid,bid,S,x,h=>by
  unfold adJ at h
  split at h
  ·rename_i hb;simp only[cM] at hb;cases h;exact⟨by simp,Y4 hb.2.2.1,cZ hb.2.1,cZ hb.1⟩
  ·obtain⟨h1,h2⟩:=OC h;exact⟨by simp[h1],h2⟩
omit [Ð] in
def OB:∀{tab:AS (Nat×ï)} {f:Nat} {p:ï},aaJ tab f=some p->(f,p)∈tab
 |[],_,_,h=>by cases h
 |y::tab,f,p,h=>by
  unfold aaJ at h
  split at h
  ·rename_i hb;cases h;rw[<-cZ hb]; simp
  ·exact fF _ (OB h)
omit [Ð] in
def Ś:∀(c:Code) (b0:Nat) {bid:Nat} {b:LI},(bid,b)∈Þ b0 c->∀y∈b.loops bid,y∈Þ b0 c
 |.seq c d,b0,bid,b,h,y,e=>by
  simp only[Þ,cR] at h ⊢;exact h.imp (fun h=>Ś c b0 h y e) (fun h=>Ś d b0 h y e)
 |.cond _ c d,b0,bid,b,h,y,e=>by
  simp only[Þ,cR] at h ⊢;exact h.imp (fun h=>Ś c b0 h y e) (fun h=>Ś d b0 h y e)
 |.block id c,b0,bid,b,h,y,e=>by
  simp only[Þ] at h ⊢;exact Ś c id h y e
 |.loop c,b0,bid,b,h,y,e=>by
  simp only[Þ,cW,Prod.mk.injEq] at h ⊢;rcases h with⟨rfl,rfl⟩|h
  ·exact .inr e
  ·exact .inr (Ś c b0 h y e)
 |.skip,_,_,_,h,_,_=>by cases h
 |.region ..,_,_,_,h,_,_=>by cases h
 |.exit _,_,_,_,h,_,_=>by cases h
 |.ret,_,_,_,h,_,_=>by cases h
 |.label _,_,_,_,h,_,_=>by cases h
 |.goto _,_,_,_,h,_,_=>by cases h
 |.rangeFunc g ps c d,b0,bid,b,h,y,e=>by
  simp only[Þ,cW,cR,Prod.mk.injEq] at h ⊢;rcases h with⟨rfl,rfl⟩|h|h
  ·exact .inr (cR.1 e)
  ·exact .inr (.inl (Ś c b0 h y e))
  ·exact .inr (.inr (Ś d b0 h y e))
 |.scope c,b0,bid,b,h,y,e=>by
  simp only[Þ] at h ⊢;exact Ś c b0 h y e
 |.refuse _,_,_,_,h,_,_=>by cases h
def LI.sz:LI->Nat
 |.lp b=>SizeOf.sizeOf b
 |.rf _ _ a b=>SizeOf.sizeOf a+SizeOf.sizeOf b
omit [Ð] in
def ħ:∀(c:Code) (b0:Nat) {bid:Nat} {b:LI},(bid,b)∈Þ b0 c->b.sz<SizeOf.sizeOf c
 |.seq c d,b0,bid,b,h=>by
  simp only[Þ,cR] at h;rcases h with h|h
  ·have:=ħ c b0 h; simp; omega
  ·have:=ħ d b0 h; simp; omega
 |.cond _ c d,b0,bid,b,h=>by
  simp only[Þ,cR] at h;rcases h with h|h
  ·have:=ħ c b0 h; simp; omega
  ·have:=ħ d b0 h; simp; omega
 |.block id c,b0,bid,b,h=>by
  have:=ħ c id h; simp; omega
 |.loop c,b0,bid,b,h=>by
  simp only[Þ,cW,Prod.mk.injEq] at h;rcases h with⟨rfl,rfl⟩|h
  ·simp[LI.sz]
  ·have:=ħ c b0 h; simp; omega
 |.skip,_,_,_,h=>by cases h
 |.region ..,_,_,_,h=>by cases h
 |.exit _,_,_,_,h=>by cases h
 |.ret,_,_,_,h=>by cases h
 |.label _,_,_,_,h=>by cases h
 |.goto _,_,_,_,h=>by cases h
 |.rangeFunc g ps c d,b0,bid,b,h=>by
  simp only[Þ,cW,cR,Prod.mk.injEq] at h;rcases h with⟨rfl,rfl⟩|h|h
  ·simp[LI.sz]; omega
  ·have:=ħ c b0 h; simp; omega
  ·have:=ħ d b0 h; simp; omega
 |.scope c,b0,bid,b,h=>by
  have:=ħ c b0 h; simp; omega
 |.refuse _,_,_,_,h=>by cases h
def ZF (E:Env ρ) (n:Nat):Prop:=∀[Ð],kR E->jS E (22-2*n) (jm E n)
def E5 (E:Env ρ):Prop:=∀n,n<=10->ZF E n->∀[Ð],kR E->∀(path:AS Nat) (f:Nat) (fn:Func) (c:Code),path.length+2=22-2*n->E.P.funcs[f]?=some fn->fn.body=some c->∀x∈Þ 0 c,ng E path f x.1 x.2
omit [Ð] in
def J2 {c:Code} {bid:Nat} {b:LI} (f:((Þ 0 c).filter fun y=>Nat.beq y.1 bid).length=1) (l:(bid,b)∈Þ 0 c):T8 (some c) bid=b:=by
 have d:(bid,b)∈(Þ 0 c).filter fun y=>Nat.beq y.1 bid:=List.mem_filter.2 ⟨l,by simp⟩;obtain⟨z,k⟩:=List.length_eq_one_iff.1 f;rw[k,List.mem_singleton] at d;unfold T8;simp only
 cases e:(Þ 0 c).find? fun y=>y.1==bid with
 |none =>
  have:=eF.1 e _ l;simp at this
 |some y =>
  have j:=List.mem_of_find?_eq_some e;have i:=gA e;have:y∈(Þ 0 c).filter fun y=>Nat.beq y.1 bid:=dV.2 ⟨j,by simpa using i⟩;rw[k,cX] at this;rw[this,<-d]
def adI:AS (Vu ρ)->AS Nat->Nat->Nat->AN (Vu ρ)
 |[],_,_,_=>none
 |x::l,path,fid,bid=>match Nat.beq x.bid bid&&(Nat.beq x.fid fid&&eqL x.path path) with
  |true=>some x
  |false=>adI l path fid bid
def oA (tab:AS (Vu ρ)) (path:AS Nat) (fid bid m:Nat) (g:AV) (S:St) (K:Exit->St->AN ρ):AN ρ :=
 match adI tab path fid bid with
 |some x=>rngK x m g S K
 |none=>none
omit [Ð] in
def OA:∀{tab:AS (Vu ρ)} {path:AS Nat} {fid bid:Nat} {x:Vu ρ},adI tab path fid bid=some x->x∈tab/\x.path=path/\x.fid=fid/\x.bid=bid
 |[],_,_,_,_,h=>by cases h
 |y::tab,path,fid,bid,x,h=>by
  unfold adI at h
  split at h
  ·rename_i hb;simp only[cM] at hb;cases h;exact⟨by simp,Y4 hb.2.2,cZ hb.2.1,cZ hb.1⟩
  ·obtain⟨h1,h2⟩:=OA h;exact⟨by simp[h1],h2⟩
def slot1:LI->Bool
 |.rf _ ps _ _=>match ps.toList with
  |[_]=>true
  |_=>false
 |_=>true
omit [Ð] in
def ac2 [LC] {E:Env ρ} (hmix:E.P.follows .mixedOrders=true) {tab:AS (ă ρ)} (Y:E.loops=lW tab) (V:∀x∈tab,x.Ok E) {l:AS (Vu ρ)} (hR:E.ranges=oA l) (C:∀x∈l,x.Ok E) (T:∀x∈l,slot1 (T8 (kP E.P x.fid) x.bid)=true):E5 E:=by
 intro n hn o g0 q path f fn c hp hf hc
 have u:kP E.P f=some c:=by simp only[kP,hf,hc]
 have I:∀(N:Nat) (x:Nat×LI),x.2.sz<N->x∈Þ 0 c->∀[Ð],kR E->ng E path f x.1 x.2:=by
  intro N
  induction N with
  |zero=>intro x h; omega
  |succ N ih =>
   intro⟨bid,b⟩ hN B
   have G:∀y∈b.loops bid,y.2.sz<N:=fun y q=>by
    cases b with
    |lp b=>have:=ħ b bid (bid:=y.1) (b:=y.2) q; simp only[LI.sz] at hN; omega
    |rf gop ps A Bd =>
     simp only[LI.sz] at hN;rcases cR.1 q with q|q
     ·have:=ħ A bid (bid:=y.1) (b:=y.2) q; omega
     ·have:=ħ Bd bid (bid:=y.1) (b:=y.2) q; omega
   have F:∀[Ð],kR E->∀y∈b.loops bid,ng E path f y.1 y.2:=fun J y q=>ih y (G y q) (Ś c 0 B y q) J;intro g1 s
   cases b with
   |lp b =>
    intro m S K r ν a w e H W;rw[Y] at e;unfold lW at e
    cases j:adJ S tab path f bid with
    |none =>
     rw[j] at e;cases e
    |some x =>
     obtain⟨h1,h2,h3,Z⟩:=OC j;obtain⟨i,d⟩:=V x h1;subst h3 Z;rw[u] at i d;simp only[Option.elim] at i
     have hb:CS (some c) x.bid=b:=by unfold CS; rw[J2 i B]
     rw[hb] at d
     have hd:10-x.path.length / 2=n:=by rw[h2]; omega
     rw[hd,h2] at d;rw[<-h2] at d;rw[j] at e;exact af8 (path:=x.path) sq (o s) (lO hmix _ _ (o s)) (by rw[h2]; omega) (by rw[h2]; exact F s) x.L x.bF (fun p v kn kx=>d p v kn kx) e H W
   |rf gop ps A Bd =>
    intro m S K r ν a w e H W;rw[hR] at e;unfold oA at e
    cases j:adI l path f bid with
    |none =>
     rw[j] at e;cases e
    |some x =>
     obtain⟨h1,h2,h3,Z⟩:=OA j;obtain⟨i,X,O,R,d⟩:=C x h1;have t:=T x h1;subst h3 Z;rw[u] at i d t;simp only[Option.elim] at i;rw[J2 i B] at d t
     have hd:10-x.path.length / 2=n:=by rw[h2]; omega
     rw[hd] at d;rw[j] at e
     have U:∃p0,ps.toList=[p0]:=by
      simp only[slot1] at t
      split at t
      ·exact⟨_,‹_›⟩
      ·cases t
     exact ab4 (x:=x) o (fun Y=>lO hmix _ _ Y) (by rw[h2]; omega) s (fun q z hz=>by rw[h2]; exact F q z hz) X O R (fun p v y k=>(d p v y (atP p k)).trans (by rw[ahb])) U (o s).plain e H W
 exact fun x B=>I _ x (Nat.lt_succ_self _) B q
omit [Ð] in
def CT [LC] {E:Env ρ} (hmix:E.P.follows .mixedOrders=true) {tab:AS (ă ρ)} (d:E.loops=lW tab) (b:∀x∈tab,x.Ok E) (c:E.ranges=oA []):E5 E :=
 ac2 hmix d b c (fun _ h=>by cases h) (fun _ h=>by cases h)
structure afp where
 path:AS Nat
 fid:Nat
 bid:Nat
 n:Nat
def agp:AS afp->AS Nat->Nat->Nat->AN afp
 |[],_,_,_=>none
 |x::l,path,fid,bid=>match Nat.beq x.bid bid&&(Nat.beq x.fid fid&&eqL x.path path) with
  |true=>some x
  |false=>agp l path fid bid
def T9 (E0:Env ρ) (us:AS afp) (path:AS Nat) (fid bid m:Nat) (S:St) (K:Exit->St->AN ρ):AN ρ :=
 match agp us path fid bid with
 |some u=>O1 (fun S K=>goC E0 (jm E0 (10-u.path.length / 2)) u.fid u.path m u.bid (CS (kP E0.P u.fid) u.bid) S K) u.n S K
 |none=>E0.loops path fid bid m S K
omit [Ð] in
def Oz:∀{tab:AS afp} {path:AS Nat} {fid bid:Nat} {x:afp},agp tab path fid bid=some x->x∈tab/\x.path=path/\x.fid=fid/\x.bid=bid
 |[],_,_,_,_,h=>by cases h
 |y::tab,path,fid,bid,x,h=>by
  unfold agp at h
  split at h
  ·rename_i hb;simp only[cM] at hb;cases h;exact⟨by simp,Y4 hb.2.2,cZ hb.2.1,cZ hb.1⟩
  ·obtain⟨h1,h2⟩:=Oz h;exact⟨by simp[h1],h2⟩
def Ff {E:Env ρ} {call:AS Nat->Bool->Nat->AS AV->AS Blk->(AV->AS Blk->AN ρ)->AN ρ} {N:Nat} (C:jS E N call) (F:nh E N call) {fid bid m:Nat} {path:AS Nat} (q:path.length+2=N) {b:Code}
 (y:∀x∈Þ bid b,ng E path fid x.1 x.2) {K:Exit->St->AN ρ} {r:ρ} {o:AS Blk} {k:Nat->Value} {s:World}:∀(n:Nat) (S:St) (ν:Nat->Value) (a:Act) (w:World),O1 (fun S K=>goC E call fid path m bid b S K) n S K=some r->Sim ν S a w->m<=S.h.length->Ev m k o s ν S.h w->Dd m o S.h ->
  Code.roundsIn fen 0 E.P b (Xu m k o s K r) n a w
 |0,S,ν,a,w,e,_,_,_,_=>by cases e
 |n+1,S,ν,a,w,e,H,G,ev,dd=>by
  rw[roundsIn_succ];simp only[O1] at e;refine wpIn_mono (kE C F q b bid S _ ν a w y e H G) fun x z v ha=>?_;obtain⟨c,i,u,A,j,B,t⟩:=ha;have d:=ev.trans A (cJ m);have f:=dd.trans B (cJ m)
  cases x with
  |normal=>exact Ff C F q y n i c z v t u j d f
  |exit id=>exact⟨c,i,u,d,j,f,t⟩
  |ret=>exact⟨c,i,u,d,j,f,t⟩
  |goto l=>exact⟨c,i,u,d,j,f,t⟩
  |panic ch=>exact⟨c,i,u,d,j,f,t⟩
  |outgrown=>exact⟨c,i,u,d,j,f,t⟩
omit [Ð] in
def ac3 {E E0:Env ρ} (k:∀[Ð],kR E0->MV E0) (v:E0.P=E.P) (z:E0.yld=none) (C:E.ranges=oA []) (hmix:E0.P.follows .mixedOrders=true) (s:E5 E0) {us:AS afp} (G:E.loops=T9 E0 us)
 (q:∀u∈us,(((kP E.P u.fid).elim [] (Þ 0)).filter fun y=>Nat.beq y.1 u.bid).length=1):E5 E:=by
 intro n F _ X _ path f fn c I N O;have i:=oZ k (fun L call G=>lO hmix L call G) s;have o:kR E0:=ū z;have j:=i n F o;have l:nh E0 (22-2*n) (jm E0 n):=lO hmix _ _ j;have t:=s n F (i n F) o path f fn c I (v▸N) O
 have d:kP E.P f=some c:=by simp only[kP,N,O]
 intro⟨bid,b⟩ B
 cases b with
 |rf gop ps A Bd =>
  intro m S K r ν a w e;rw[C] at e;cases e
 |lp b =>
 intro m S K r ν a w e H J;rw[G] at e;unfold T9 at e
 split at e
 ·rename_i u W;obtain⟨h1,h2,U,T⟩:=Oz W
  have hd:10-u.path.length / 2=n:=by rw[h2]; omega
  have R:=q u h1;rw[U,T,d] at R
  have hb:CS (some c) bid=b:=by unfold CS; rw[J2 R B]
  rw[hd,h2,U,T,v,d,hb] at e;have:=Ff j l I (fun y V=>t y (Ś c 0 B y V)) u.n S ν a w e H J (Ev.refl _ _ _ _) (Dd.refl _ _);rw[v] at this;exact wpIn_loop_rounds u.n this
 ·have:=t (bid,.lp b) B m S K r ν a w e H J
  rwa [v] at this
def Ps (H:HR ν h w) {c:AV} {u:Value} (d:VR1 ν h w c u):VRs w Ð.G (ñ h c) u:=AJ H (fun b hb=>.inr hb) d fun id b _ e hb=>H.ghG id b e hb
def acg (H:HR ν h w) {id:Nat} {cs:AS AV} (e:lkB h id=.cells cs):(∀b,ę (ν id) b->¬Ð.G b)/\∀c∈cs,∀u,VR1 ν h w c u->VRs w Ð.G (ñ h c) u :=
 ⟨fun b hb=>H.ghG id b (by rw[e]; rfl) hb,fun _ _ _ d=>Ps H d⟩
def ò.up2:∀{as:AS AV} {vs:AS Value},ò (Go.Am.VR2 ν h w) as vs->ò (Go.Am.VR ν h w) as vs
 |[],[],_=>trivial
 |_::_,_::_,h=>⟨h.1.up,ò.up2 h.2⟩
 |[],_::_,h=>h.elim
 |_::_,[],h=>h.elim
def Pa (H:HR ν h w):∀(l:AS Ty) {x:Val (tyL l)} {v:AV} {u:Value},VR ν h w v u->ahx l h v=some x->RR w Ð.G l x u
 |[],_,_,_,_,e=>by cases e
 |[t],x,v,u,d,e=>Q0 H d (fun _ _ _ f=>Ps H f) (fun _ _ _ c=>acg H c) (fun id _ _ c b hb=>H.ghG id b c hb) e
 |t::u'::l,x,v,u,d,e=>by
  cases v with
  |tup as =>
   obtain⟨us,rfl,h2⟩:=d;exact⟨us,rfl,Lj H (u'::l) t x as us.toList h2.up2 (fun _ _ _ _ _ f=>Ps H f) (fun _ _ _ _ _ c=>acg H c) (fun _ _ id _ _ c b hb=>H.ghG id b c hb) e⟩
  |_=>cases e
def AT.mono {G d:Nat->Prop} (c:∀b,d b->G b):∀{l:AS Ty} {t:Ty} {x:Val (tys t l)} {vs:AS Value},AT w G l t x vs->AT w d l t x vs
 |[],t,x,vs,⟨v,h1,h2⟩=>⟨v,h1,h2.mono c⟩
 |u::l,t,x,vs,⟨v,vs',h1,h2,e⟩=>⟨v,vs',h1,h2.mono c,AT.mono c e⟩
def AL.mono {G c:Nat->Prop} (d:∀b,c b->G b):∀{l:AS Ty} {x:Val (tyL l)} {vs:AS Value},AL w G l x vs->AL w c l x vs
 |[],_,_,h=>h
 |_::_,_,_,h=>AT.mono d h
def AL.VR:∀{l:AS Ty} {x:Val (tyL l)} {vs:AS Value},AL w (Av ν h) l x vs->ò (VR ν h w) (UL l x) vs
 |[],_,_,h=>by cases h; trivial
 |_::_,_,_,h=>AT.VR h
end
omit [Ð] in
def XT {f:Nat} {p:ï} (E:Env (Val (tyL p.rs))) (d:∀[Ð],MV E) (hmix:E.P.follows .mixedOrders=true) (hl:E5 E) (law:Pd p E f):Ξ E.P f p:=by
 intro G x y B w vals A l q
 letI g:Ð:=Gh G
 have o:=law x;rw[B] at o;unfold topK at o;have hy:∀[Ð],kR E:=MV.yld d;have hall:∀n,n<=10->ZF E n:=oZ (fun _=>d) (fun L call C=>lO hmix L call C) hl;have j:∀M,@jS _ (g.re g.G [] none M) _ E 2 (jm E 10):=fun M=>@hall 10 (Nat.le_refl _) (g.re g.G [] none M) (@hy _);have H:HR (fun _=>undef) [] w:=⟨fun _=>trivial,fun _ _ _ h=>(by cases h),A,fun _ _ h=>(by cases h),l,fun _ _ ⟨_,h,_⟩=>(by cases h)⟩;have m:∀b,Av (fun _=>undef) [] b->G b:=fun b hb=>hb.elim (fun⟨_,h,_⟩=>by cases h) id;have i:ò (VR (fun _=>undef) [] w) (UL p.ts x) vals:=AL.VR (q.mono m);obtain⟨h1,h2⟩:=KO j (fun M=>@lO _ (g.re g.G [] none M) _ _ hmix _ _ (j M)) (path:=[]) rfl (fun M fn c t z=>@hl 10 (Nat.le_refl _) (hall 10 (Nat.le_refl _)) (g.re g.G [] none M) (@hy _) [] f fn c rfl t z) o H (Nat.zero_le _) i;refine⟨h1,h2.mono fun e w' s=>?_⟩;obtain⟨ν',h',v,u,rfl,J,I,k,N,K,F⟩:=s;refine⟨u,rfl,Pa I _ J F,fun b hb=>(k.keep b hb fun⟨_,h,_⟩=>by cases h).1,k.size,k.os,k.tape,k.output⟩
omit [Ð] in
def AR [LC] {f:Nat} {p:ï} (E:Env (Val (tyL p.rs))) (b:∀[Ð],MV E) (hmix:E.P.follows .mixedOrders=true) {tab:AS (ă (Val (tyL p.rs)))} (e:E.loops=lW tab) (c:∀x∈tab,x.Ok E) (law:Pd p E f) (d:E.ranges=oA []:=by rfl):Ξ E.P f p :=
 XT E b hmix (CT hmix e c d) law
omit [Ð] in
def RU [LC] {f:Nat} {p:ï} (E E0:Env (Val (tyL p.rs))) (d:∀[Ð],MV E) (b:∀[Ð],MV E0) (k:E0.P=E.P) (hmix:E.P.follows .mixedOrders=true) {tab:AS (ă (Val (tyL p.rs)))} (h0:E0.loops=lW tab) (i:∀x∈tab,x.Ok E0) {us:AS afp} (m:E.loops=T9 E0 us)
 (c:∀u∈us,(((kP E.P u.fid).elim [] (Þ 0)).filter fun y=>Nat.beq y.1 u.bid).length=1) (law:Pd p E f) (j:E0.ranges=oA []:=by rfl) (l:E.ranges=oA []:=by rfl) (e:E0.yld=none:=by rfl):Ξ E.P f p :=
 XT E d hmix (ac3 (fun _=>b) k e l (k▸hmix) (CT (k▸hmix) h0 i j) m c) law
omit [Ð] in
def lh {p:ï} {E:Env (Val (tyL p.rs))} {f:Nat} (h:∀x:Val (tyL p.ts),topK E f (UL p.ts x) (fun h v=>Ä (ahx p.rs h v) some)=p.F x):Pd p E f:=fun x=>by
 rw[<-h x];congr 1;funext h v;unfold Ä
 cases ahx p.rs h v<;>rfl
omit [Ð] in
def Ã {α:Type} {Q:α->Prop}:∀x∈([]:AS α),Q x:=fun _ h=>by cases h
omit [Ð] in
def À {α:Type} {Q:α->Prop} {a:α} {l:AS α} (h:Q a) (c:∀x∈l,Q x):∀x∈a::l,Q x:=fun x b=>by
 rcases cW.1 b with rfl|b
 ·exact h
 ·exact c x b
@[reducible] def Gk (G:Nat->Prop) (D:AS Deferred) (Q:AN Nat):Ð:=⟨G,D,Q,0,0,0,.unit,fun _ _ _ _=>False,fun _ _ _ _ _ _ h=>h.elim⟩
end Go.Am
end

noncomputable section
namespace Go.Am
open Go.ChangeShapes Go.WideShapes Go.ChangeAt Go.RowKit
abbrev aiC:Nat->Prop:=fun _=>False
def Rng:(t:Ty)->Val t->Prop
 |.int .i64,n=>-9223372036854775808<=(n:Int)/\(n:Int)<=9223372036854775807
 |.pair a b,x=>Rng a (x:Val a×Val b).1/\Rng b (x:Val a×Val b).2
 |.slice t,l=>∀x∈(l:AS (Val t)),Rng t x
 |.fsl _,_=>True
 |_,_=>True
mutual
def afj (P:Program):Nat->Ty->TypeId->Bool
 |0,_,_=>false
 |n+1,τ,t =>
  match P.underlying t with
  |some .bool=>match τ with
   |.bool=>true
   |_=>false
  |some (.int k)=>match τ with
   |.int b=>k==b
   |_=>false
  |some .string=>match τ with
   |.str=>true
   |_=>false
  |some (.slice e)=>match τ with
   |.slice u=>afj P n u e&&(Nat.beq (P.cellsOf e) u.size&&Nat.ble 1 u.size)
   |_=>false
  |some (.struct fs)=>Nat.beq (P.cellsOf t) τ.size&&(τ.isAgg&&fieldsAre P n τ 0 fs.toList)
  |_=>false
def fieldsAre (P:Program):Nat->Ty->Nat->AS Field->Bool
 |0,_,_,_=>false
 |n+1,τ,off,[f]=>Nat.beq f.offset off&&(Nat.beq (P.cellsOf f.type) τ.size&&afj P n τ f.type)
 |n+1,.pair a b,off,f::g::fs=>Nat.beq f.offset off&&(Nat.beq (P.cellsOf f.type) a.size&&(afj P n a f.type&&fieldsAre P n b (off+a.size) (g::fs)))
 |_,_,_,_=>false
end
def PE {α β:Type} {f:α->AN β}:∀{l:AS α} {ys:AS β},l.mapM f=some ys->∀a∈l,∃y,f a=some y
 |[],ys,_,a,ha=>by cases ha
 |b::l,ys,h,a,ha=>by
  rw[List.mapM_cons] at h
  cases hb:f b with
  |none=>rw[hb] at h; cases h
  |some y =>
   rw[hb] at h
   cases c:l.mapM f with
   |none=>simp[c] at h
   |some d =>
    rcases cW.1 ha with rfl|ha
    ·exact⟨y,hb⟩
    ·exact PE c a ha
def KW {α:Type} {Q:Nat->α->Prop}:∀n:Nat,(∀i,i<n->∃x,Q i x)->∃xs:AS α,xs.length=n/\∀i x,xs[i]?=some x->Q i x
 |0,_=>⟨[],rfl,fun i x h=>by simp at h⟩
 |n+1,h=>by
  obtain⟨xs,h1,h2⟩:=KW n fun i hi=>h i (by omega);obtain⟨x,c⟩:=h n (by omega);refine⟨xs++[x],by simp[h1],fun i y b=>?_⟩;rcases dC i n with hi|hi
  ·rw[eW (by omega)] at b; exact h2 i y b
  ·rw[eR (by omega),h1] at b
   have:i=n:=by
    rcases dC 0 (i-n) with h0|h0
    ·rw[List.getElem?_eq_none (by simp; omega)] at b; cases b
    ·omega
   subst this;simp at b;rw[<-b]; exact c
section
variable [ë] {H:Type} {enc:TypeId×Value->H} {P:Program} {w:World} {sp:Nat->Bool} {held:Bool}
def agR {base:Nat} {a:Addr} {n:Nat} {cs:AS Value} (h:w.cells? base a n=some cs) (c:a.spot=none):Ď w a.block a.off cs:=by
 obtain⟨_,i,f⟩:=World.cells?_some h;intro j v d;have e:j<cs.length:=(cO.1 d).1;have:=f j (by omega);rw[d] at this;rw[<-this];congr 1;obtain⟨b,o,s⟩:=a;simp only at c;subst c;exact(add_plain b o j).symm
def ZA (enc:TypeId×Value->H) (P:Program) (w:World) (sp:Nat->Bool) (held:Bool) (n:Nat):Prop :=
 ∀(τ:Ty) (t:TypeId) (b:Nat) (cs:AS Value) (d:DataW H) (ps:AS MemPlace),afj P n τ t=true->DataW.trod enc P w 0 sp held b t cs=some (d,ps)->∃x:Val τ,CR w aiC τ x cs/\Rng τ x
def HA (enc:TypeId×Value->H) (P:Program) (w:World) (sp:Nat->Bool) (held:Bool) (n:Nat):Prop :=
 ∀(τ:Ty) (off:Nat) (fs:AS Field) (b:Nat) (cs:AS Value),fieldsAre P n τ off fs=true->(∀f∈fs,∃y,DataW.trod enc P w 0 sp held b f.type ((cs.drop f.offset).take (P.cellsOf f.type))=some y)->cs.length=off+τ.size->∃x:Val τ,CR w aiC τ x (cs.drop off)/\Rng τ x
set_option maxHeartbeats 1000000 in
def abJ {n:Nat} (A:ZA enc P w sp held n) (B:HA enc P w sp held n):ZA enc P w sp held (n+1):=by
 intro τ t j cs d ps h e
 cases j with
 |zero=>simp[DataW.trod] at e
 |succ j =>
  unfold afj at h;unfold DataW.trod at e
  split at h
  ·-- bool
   rename_i q;rw[q] at e
   cases τ<;>try (cases h; done)
   rcases cs with _|⟨c,_|⟨U,cs⟩⟩<;>try first|(cases e; done)|(simp at e; done)
   cases c<;>try (cases e; done)
   rename_i b;exact⟨(show Val .bool from b),rfl,trivial⟩
  ·-- int
   rename_i k q;rw[q] at e
   cases τ<;>try (cases h; done)
   rename_i k'
   have hk:k=k':=by simpa using h
   subst hk
   rcases cs with _|⟨c,_|⟨U,cs⟩⟩<;>try first|(cases e; done)|(simp at e; done)
   cases c<;>try (cases e; done)
   rename_i X m;simp only at e
   split at e<;>try (cases e; done)
   rename_i L;obtain⟨rfl,E⟩:=L;refine⟨(show Val (.int X) from m),rfl,?_⟩
   cases X<;>try trivial
   simp only[Lit.wf,cM,decide_eq_true_eq] at E;exact E
  ·-- string
   rename_i q;rw[q] at e
   cases τ<;>try (cases h; done)
   rcases cs with _|⟨c,_|⟨U,cs⟩⟩<;>try first|(cases e; done)|(simp at e; done)
   cases c<;>try (cases e; done)
   rename_i s;exact⟨(show Val .str from s),rfl,trivial⟩
  ·-- slice
   rename_i v q;rw[q] at e
   cases τ<;>try (cases h; done)
   rename_i u;simp only[cM] at h;obtain⟨h1,h2,h3⟩:=h;have F:P.cellsOf v=u.size:=cZ h2;have Y:1<=u.size:=eA h3
   rcases cs with _|⟨c,_|⟨U,cs⟩⟩<;>try first|(cases e; done)|(simp at e; done)
   cases c<;>try (cases e; done)
   rename_i base len cap
   cases base with
   |none =>
    cases len<;>cases cap<;>try (cases e; done)
    exact⟨(show Val (.slice u) from[]),⟨none,0,rfl,cJ _,.inl rfl⟩,fun x K=>by cases K⟩
   |some a =>
    simp only at e
    split at e<;>try (cases e; done)
    rename_i hb
    cases G:(List.range len).mapM (fun i=>(w.cells? 0 (a.add (i*P.cellsOf v)) (P.cellsOf v)).bind (DataW.trod enc P w 0 sp held j v)) with
    |none=>rw[G] at e; cases e
    |some aiM =>
     clear e
     have z:∀i,i<len->∃x:Val u,∃us,w.cells? 0 (a.add (i*P.cellsOf v)) (P.cellsOf v)=some us/\CR w aiC u x us/\Rng u x:=by
      intro i hi;obtain⟨y,J⟩:=PE G i (List.mem_range.2 hi)
      cases L:w.cells? 0 (a.add (i*P.cellsOf v)) (P.cellsOf v) with
      |none=>rw[L] at J; cases J
      |some us =>
       rw[L] at J;obtain⟨d',N⟩:=y;obtain⟨x,g1,g2⟩:=A u v j us d' N h1 J;exact⟨x,us,rfl,g1,g2⟩
     obtain⟨xs,T,K⟩:=KW len z;refine⟨(show Val (.slice u) from xs),⟨some a,cap,by rw[T],by rw[T]; exact hb.2.1,?_⟩,fun x O=>?_⟩
     ·rcases fC len with h0|h0
      ·left; exact dg.1 (by rw[T,h0])
      ·right;obtain⟨x0,C,c0,_,_⟩:=z 0 h0;have I:=World.cells?_block c0 (by omega);obtain⟨_,l0,g0⟩:=World.cells?_some c0
       have l:a.spot=none:=by
        have h5:=g0 0 (by omega);obtain⟨V,S⟩:∃V,C[0]?=some V:=⟨C[0],cI (by omega)⟩;rw[S] at h5;simpa[Addr.add] using World.cell?_spot h5
       obtain⟨b,o,s⟩:=a;simp only at l;subst l;refine⟨b,o,rfl,id,by simpa[Addr.add] using I,fun i x R=>?_⟩;obtain⟨us,W,q2,_⟩:=K i x R;refine⟨us,q2,?_⟩;rw[add_plain] at W;have:=agR W rfl;rw[F] at this;exact this
     ·obtain⟨i,hi,rfl⟩:=dh.1 O;obtain⟨us,_,_,g⟩:=K i _ (cI hi);exact g
  ·-- struct
   rename_i fs q;rw[q] at e;simp only[cM] at h;obtain⟨h1,_,h2⟩:=h;have F:P.cellsOf t=τ.size:=cZ h1;simp only at e
   split at e<;>try (cases e; done)
   rename_i Z
   cases G:fs.toList.mapM (fun f=>DataW.trod enc P w 0 sp held j f.type ((cs.drop f.offset).take (P.cellsOf f.type))) with
   |none=>rw[G] at e; cases e
   |some xs =>
    have:=B τ 0 fs.toList j cs h2 (PE G) (by omega);simpa using this
  ·cases h
def WO {n:Nat} (A:ZA enc P w sp held n) (B:HA enc P w sp held n):HA enc P w sp held (n+1):=by
 intro τ off fs c cs h k i;rcases fs with _|⟨f,_|⟨g,fs⟩⟩
 ·simp[fieldsAre] at h
 ·unfold fieldsAre at h;simp only[Bool.and_eq_true] at h;obtain⟨h1,h2,l⟩:=h;obtain⟨⟨d,ps⟩,e⟩:=k f (by simp);rw[Nat.eq_of_beq_eq_true h1,Nat.eq_of_beq_eq_true h2,List.take_of_length_le (by rw[List.length_drop]; omega)] at e;exact A τ f.type c _ d ps l e
 ·cases τ<;>try (simp[fieldsAre] at h; done)
  rename_i a b;unfold fieldsAre at h;simp only[Bool.and_eq_true] at h;obtain⟨h1,h2,l,t⟩:=h;obtain⟨⟨d,ps⟩,e⟩:=k f (by simp);rw[Nat.eq_of_beq_eq_true h1,Nat.eq_of_beq_eq_true h2] at e;obtain⟨x,s,q⟩:=A a f.type c _ d ps l e;simp only[Ty.size] at i;obtain⟨y,o,m⟩:=B b (off+a.size) (g::fs) c cs t (fun u j=>k u (by simp[j])) (by omega);refine⟨(show Val (.pair a b) from(x,y)),⟨_,_,?_,s,o⟩,q,m⟩;rw[<-List.drop_drop,List.take_append_drop]
def uQ:∀n,ZA enc P w sp held n/\HA enc P w sp held n
 |0=>⟨fun τ t b cs d ps h _=>by simp[afj] at h,fun τ off fs b cs h _ _=>by simp[fieldsAre] at h⟩
 |n+1=>⟨abJ (uQ n).1 (uQ n).2,WO (uQ n).1 (uQ n).2⟩
def XD {n:Nat} {τ:Ty} {t:TypeId} {v:Value} {d:DataW H} {ps:AS MemPlace} {r:Reach} {base:Nat} (e:afj P n τ t=true) (h:DataW.Trod enc P w 0 sp held t v d ps) (c:Value.okWide P w r base t v):∃x:Val τ,kd w aiC τ x v/\Rng τ x:=by
 obtain⟨i,j⟩:=h;obtain⟨x,h1,h2⟩:=(uQ n).1 τ t i _ d ps e j;refine⟨x,⟨_,h1,?_⟩,h2⟩
 cases n with
 |zero=>simp[afj] at e
 |succ n =>
  unfold afj at e;unfold Value.okWide at c
  split at e
  ·rename_i b;rw[b] at c
   cases τ<;>try (cases e; done)
   simp only[Cell.okWide,b] at c
   cases v<;>simp_all[Cell.ok,Value.cells,uC,Ty.isAgg]
  ·rename_i k b;rw[b] at c
   cases τ<;>try (cases e; done)
   simp only[Cell.okWide,b] at c
   cases v<;>simp_all[Cell.ok,Value.cells,uC,Ty.isAgg]
  ·rename_i b;rw[b] at c
   cases τ<;>try (cases e; done)
   simp only[Cell.okWide,b] at c
   cases v<;>simp_all[Cell.ok,Value.cells,uC,Ty.isAgg]
  ·rename_i l b;rw[b] at c
   cases τ<;>try (cases e; done)
   simp only[Cell.okWide,b] at c
   cases v<;>simp_all[Cell.ok,Value.cells,uC,Ty.isAgg]
  ·rename_i fs b;rw[b] at c;obtain⟨cs,rfl,_,_⟩:=c;simp only[cM] at e;have f:τ.isAgg=true:=e.2.1;simp[uC,f,Value.cells]
  ·cases e
def yd (P:Program):AS Ty->AS TypeId->Bool
 |[],[]=>true
 |τ::l,t::ts=>afj P 40 τ t&&yd P l ts
 |_,_=>false
def XE {r:Reach} {base:Nat}:∀(l:AS Ty) (τ:Ty) (t:TypeId) (ts:AS TypeId) (v:Value) (vs:AS Value) (k:AS (DataW H)) (ps:AS MemPlace),yd P (τ::l) (t::ts)=true->DataW.TrodAll enc P w 0 sp held (t::ts) (v::vs) k ps ->
 (∀(j:Nat) f e,(t::ts)[j]?=some f->(v::vs)[j]?=some e->Value.okWide P w r base f e)->∃x:Val (tys τ l),AT w aiC l τ x (v::vs)/\Rng (tys τ l) x
 |l,τ,t,ts,v,vs,[],ps,_,h,_=>by cases h
 |[],τ,t,ts,v,vs,d::k,ps,c,h,i=>by
  obtain⟨p,q,h1,h2,_⟩:=h;simp only[yd,cM] at c
  have:ts=[]:=by cases ts with|nil=>rfl|cons=>simp[yd] at c
  subst this
  have m:vs=[]:=by cases vs with|nil=>rfl|cons=>exact h2.elim
  subst m;obtain⟨x,o,n⟩:=XD c.1 h1 (i 0 t v rfl rfl);exact⟨x,⟨v,rfl,o⟩,n⟩
 |u::l,τ,t,ts,v,vs,d::k,ps,c,h,i=>by
  obtain⟨p,q,h1,h2,_⟩:=h;simp only[yd,cM] at c;obtain⟨x,o,n⟩:=XD c.1 h1 (i 0 t v rfl rfl);rcases ts with _|⟨t2,ts⟩
  ·simp[yd] at c
  ·rcases vs with _|⟨s,vs⟩
   ·exact h2.elim
   ·obtain⟨y,A,z⟩:=XE l u t2 ts s vs k q c.2 h2 fun j f e a b=>i (j+1) f e (by simpa using a) (by simpa using b);exact⟨(show Val (.pair τ (tys u l)) from(x,y)),⟨v,s::vs,rfl,o,A⟩,n,z⟩
def afu {r:Reach} {base:Nat} {l:AS Ty} {ts:AS TypeId} {vs:AS Value} {b:AS (DataW H)} {ps:AS MemPlace} (d:yd P l ts=true) (h:DataW.TrodAll enc P w 0 sp held ts vs b ps)
 (i:∀(j:Nat) f e,ts[j]?=some f->vs[j]?=some e->Value.okWide P w r base f e):∃x:Val (tyL l),AL w aiC l x vs/\Rng (tyL l) x:=by
 rcases l with _|⟨τ,l⟩
 ·have:ts=[]:=by cases ts with|nil=>rfl|cons=>simp[yd] at d
  subst this
  have c:vs=[]:=by cases vs with|nil=>rfl|cons=>cases b<;>exact h.elim
  exact⟨(show Val .unit from()),c,trivial⟩
 ·rcases ts with _|⟨t,ts⟩
  ·simp[yd] at d
  ·rcases vs with _|⟨v,vs⟩
   ·cases b<;>exact h.elim
   ·exact XE l τ t ts v vs b ps d h i
def AH (j:laidOutB P=true) {W k:World} (hb:Below W.heap.size W k):∀{ts:AS TypeId} {vs:AS Value} {i:AS (DataW H)} {ps:AS MemPlace},(ts.all fun t=>P.readableRec t&&decide (t<P.types.size))=true->DataW.TrodAll enc P W 0 (fun _=>true) true ts vs i ps->(∀x∈ps,x.block<W.heap.size) ->
 DataW.TrodAll enc P k 0 (fun b=>decide (b<W.heap.size)) true ts vs i ps
 |[],[],[],ps,_,h,_=>h
 |t::ts,v::vs,d::i,ps,e,h,c=>by
  obtain⟨p,q,h1,h2,rfl⟩:=h;simp only[eQ,cM,decide_eq_true_eq] at e;exact⟨p,q,Below.trod j e.1.1 e.1.2 h1 hb (fun x f=>c x (dU _ f)),AH j hb (by simpa using e.2) h2 (fun x f=>c x (dI _ f)),rfl⟩
 |[],[],_::_,_,_,h,_=>h.elim
 |[],_::_,_,_,_,h,_=>by cases ‹AS (DataW H)›<;>exact h.elim
 |_::_,[],_,_,_,h,_=>by cases ‹AS (DataW H)›<;>exact h.elim
 |_::_,_::_,[],_,_,h,_=>h.elim
def HC {W:World}:∀{ts:AS TypeId} {vs:AS Value} {b:AS (DataW H)} {ps:AS MemPlace},DataW.TrodAll enc P W 0 sp held ts vs b ps->b.length=ts.length
 |[],[],[],_,_=>rfl
 |_::_,_::_,_::_,_,h=>by obtain⟨p,q,_,h2,_⟩:=h; simp[HC h2]
 |[],[],_::_,_,h=>h.elim
 |[],_::_,b,_,h=>by cases b<;>exact h.elim
 |_::_,[],b,_,h=>by cases b<;>exact h.elim
 |_::_,_::_,[],_,h=>h.elim
def law_lifted (N:∀W:World,ë.Φ W) (hE:∀b,¬ë.E b) {C:Checked} {os:Os} {f:FuncId} {fn:Func} {s:ChangeSpec} {k:AS PathCond} {p:ï} {tb:TypeId} (own:ownKnob C.prog.godebug=none) (d:os.Started) (l:C.prog.inits.idxOf? f=none) (T:C.prog.funcs[f]?=some fn)
 (c:∃(w:World) (tape:Tape) (i:Input),w.os=os/\(w.forCall tape i).Shaped C.prog/\i.vars=[]/\Input.okWide C.prog (w.forCall tape i) .any w.heap.size f i /\
  s.pre6 enc C.prog fn k false (w.forCall tape i).memory i.args/\({}:Assume).holds C.prog (lone (Frame.enter C.prog f i.args .normal) [] (w.forCall tape i)))
 (hp:Ξ C.prog f p) (o:p.rs=[.bool]) (law:∀x:Val (tyL p.ts),Rng (tyL p.ts) x->p.F x=some (o▸(show Val (tyL [.bool]) from true))) (G:yd C.prog p.ts fn.params.toList=true) (I:s.vars=[])
 (hs:∀m:AS (DataW H),m.length=fn.params.toList.length->s.fn H m={results:=[.lit (.bool true)],args:=m}) (hl:laidOutB C.prog=true) (O:(fn.params.toList.all fun t=>C.prog.readableRec t&&decide (t<C.prog.types.size))=true)
 (J:fn.resultTypes=#[tb]) (z:C.prog.underlying tb=some .bool) :
 ReturnsInHanded {} C os f .any (s.pre6 enc C.prog fn k false) (s.post enc C.prog fn false true false false):=by
 refine returnsInHanded_of_change own d l T c ?_;intro W base args m Z K B Y _ _;have A:=Y;obtain⟨L,q,V,U,rfl,_,_⟩:=Y
 have S:Z=[]/\q=[]:=by
  rw[I] at U
  cases Z with
  |nil=>exact⟨rfl,U⟩
  |cons=>exact U.elim
 obtain⟨rfl,rfl⟩:=S;obtain⟨x,h1,h2⟩:=afu G V (r:=.any) (base:=base) fun j t v ht hv=>B j t v (by simpa using ht) (by simpa using hv);simp only[dv] at A
 have R:∀x∈L,x.block<W.heap.size:=fun x hx=>by simpa using A.lt x hx
 refine(callsIn_wide (n:=0)).1 ((hp aiC x _ (law x h2) W args.toList (fun b h=>h.elim (fun q=>q.elim) fun q=>(hE b q).elim) (N W) h1).2.mono fun e W' hw=>?_);obtain⟨u,rfl,X,k2,k3,k4,k5,k6⟩:=hw
 have hu:u=.bool true:=by
  obtain⟨ts,rs,F⟩:=p;dsimp only at o X;subst o;obtain⟨us,c1,rfl⟩:=X;have:us=[.bool true]:=c1;rw[this]; rfl
 subst hu;have hb:Below W.heap.size W W':=⟨k4,k5,k6,k3,k2⟩
 have y:s.fn H (m++[])={results:=[.lit (.bool true)],args:=m}:=by rw[dv]; exact hs m (HC V)
 refine⟨_,rfl,m,[],L,[],L,[],A,?_,?_,?_,hb.frame _,fun h=>by cases h⟩
 ·rw[y,J];exact trodAll_mk1 (shut_bool z _)
 ·rw[y];exact AH hl hb O V R
 ·rw[y,I]; rfl
end
def joined_of {P:Program} {f:FuncId} {fn:Func} {s:ChangeSpec} {c:OpenClaim} (h1:c.wf (OpenSpec.ofChange s)=true) (h2:laidOutB P=true) (U:mapsRowed P=true) (T:fn.params.all (P.readableRec ·)=true) (S:namedTie P c.named s.vars=true)
 (R:(c.stops==[])=true) (O:(P.stops==[])=true) (N:(c.knobs==[])=true) (L:(P.stopKnobs==[])=true) (K:(c.inPlace==P.inPlace f)=true) (J:(c.unfollowed==P.unfollowed f)=true) (I:(c.recurses==P.recurses f)=true) (G:(c.named==P.varsNamed f)=true)
 (F:(c.maps==(fn.params.toList++s.plain.varTypes P).any (P.mapsRec ·))=true) (E:(c.ifaces==(fn.params.toList++s.plain.varTypes P).any (P.ifacesRec ·))=true) (C:(c.mapsOut==P.mapsAmong fn.resultTypes.toList)=true)
 (B:(c.loops==(fn.params.toList++s.plain.varTypes P).any (P.loopsFrom ·))=true) (A:(c.wideKeys==(fn.params.toList++s.plain.varTypes P++fn.resultTypes.toList).any (P.wideKeysFrom ·))=true)
 (z:s.vars.all (P.varReadable ·)=true) (y:fn.resultTypes.all (fun t=>P.readableRec t&&decide (t<P.types.size))=true) (v:(c.ifacesOut==fn.resultTypes.toList.any (P.ifacesRec ·))=true) (u:(c.loopsOut==fn.resultTypes.toList.any (P.loopsFrom ·))=true)
 (q:(c.plainKeys==P.plainKeys)=true) (o:c.shortTexts.isNone=true) (n:P.stopsHeard=true) (m:P.mayEnter=true) (l:(c.lifted==P.liftsFinal)=true) (j:(P.make==some c.make)=true)
 (i:(c.kinds==(if c.domain.isEmpty then[] else fn.params.toList.map fun t=>match P.underlying t with|some (.int k)=>some k|_=>none))=true) (e:(c.pinned==c.pinnedBy)=true)
 (d:(c.veiled==(fn.params.toList++s.plain.varTypes P++fn.resultTypes.toList).any (P.veiledRec ·))=true) (b:c.veiledFits P fn.params.toList (fn.params.toList++s.plain.varTypes P++fn.resultTypes.toList)=true):joinedFacts P f fn s c=true:=by
 unfold joinedFacts;simp only[h1,h2,U,T,S,R,O,N,L,K,J,I,G,F,E,C,B,A,z,y,v,u,q,o,n,m,l,j,e,d,b,Bool.and_true];exact i
end Go.Am
end
