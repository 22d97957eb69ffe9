/- lemmas -/
import Derived.Test.YtbfmlbheofblcaaGreatAmB
import Derived.Test.YtbfmlbheofblcaaGreatAmA
import Derived.RangeFuncLeaves
set_option linter.all false
noncomputable section
namespace Go.Am
variable [ë] [Ð]
section
variable {ν:Nat->Value} {h h':AS Blk} {w:World}
def U2 {t:Ty} {d:DV} {x:Val t} (e:K4 t d=some x):d=⟨t,x⟩:=by
 unfold K4 at e
 split at e<;>try (cases e; done)
 rename_i a _;obtain⟨ty,val⟩:=d;simp only at a;subst a;cases e;rfl
def ZL (u:Ty) (l:AS Ty) (t:Ty) (d:DV) (a:AS DV):ZM (u::l) t (d::a)=(match K4 t d with
 |some x=>match ZM l u a with
  |some y=>some ((x,y):Val t×Val (tys u l))
  |none=>none
 |none=>none):=rfl
def acq (t:Ty) (x:Val t):Z5 t [] x=[⟨t,x⟩]:=rfl
def Z4 (t u:Ty) (l:AS Ty) (x:Val t) (y:Val (tys u l)):Z5 t (u::l) ((x,y):Val t×Val (tys u l))=⟨t,x⟩::Z5 u l y:=rfl
def afv (l:AS Ty):∀(t:Ty) (a:AS DV) (x:Val (tys t l)),ZM l t a=some x->Z5 t l x=a:=by
 induction l with
 |nil =>
  intro t a x e
  match a,e with
  |[],e=>exact absurd (show(none:AN (Val t))=some x from e) (fun h=>by cases h)
  |[d],e =>
   have e:K4 t d=some x:=e;rw[U2 e]; exact acq t x
  |_::_::_,e=>exact absurd (show(none:AN (Val t))=some x from e) (fun h=>by cases h)
 |cons u l f =>
  intro t a x e
  match a,e with
  |[],e=>exact absurd (show(none:AN (Val t×Val (tys u l)))=some x from e) (fun h=>by cases h)
  |d::a,e =>
   rw[ZL] at e
   cases b:K4 t d with
   |none=>rw[b] at e; exact absurd (show(none:AN (Val t×Val (tys u l)))=some x from e) (fun h=>by cases h)
   |some y =>
    cases c:ZM l u a with
    |none=>rw[b,c] at e; exact absurd (show(none:AN (Val t×Val (tys u l)))=some x from e) (fun h=>by cases h)
    |some z =>
     rw[b,c] at e;have e:((y,z):Val t×Val (tys u l))=x:=Option.some.inj e;rw[<-e,U2 b,<-f u a z c];exact Z4 t u l y z
def XF (l:AS Ty) (a:AS DV) (x:Val (tyL l)) (e:ahZ l a=some x):VV l x=a:=by
 cases l with
 |nil=>cases a with
  |nil=>rfl
  |cons=>cases e
 |cons t l=>exact afv l t a x e
def νb (B:AS Bd) (ν:Nat->Value) (i:Nat):Value :=
 match ς B i with
 |some (.at_ id)=>ν id
 |some .new=>.slice none 0 0
 |some .newd=>.agg [Value.slice none 0 0].toArray
 |_=>undef
structure Ext (M M':Mt):Prop where
 bd:∀i id,ς M.bd i=some (.at_ id)->ς M'.bd i=some (.at_ id)
 new:∀i,ς M.bd i=some .new->ς M'.bd i=some .new
 newd:∀i,ς M.bd i=some .newd->ς M'.bd i=some .newd
 cons:M.cons <+: M'.cons
 vars:M.vars <+: M'.vars
 freed:∀i∈M.freed,i∈M'.freed
 len:M'.bd.length=M.bd.length
def Ext.refl (M:Mt):Ext M M:=⟨fun _ _ h=>h,fun _ h=>h,fun _ h=>h,dW,dW,fun _ h=>h,rfl⟩
def Ext.trans {M M' a:Mt} (h:Ext M M') (k:Ext M' a):Ext M a :=
 ⟨fun i id q=>k.bd i id (h.bd i id q),fun i q=>k.new i (h.new i q),fun i q=>k.newd i (h.newd i q),h.cons.trans k.cons,h.vars.trans k.vars,fun i q=>k.freed i (h.freed i q),k.len.trans h.len⟩
def Ŗ:∀(l:AS Bd) (d:Nat) (b:Bd) (i:Nat),ς (F2 l d b) i=if i=d/\d<l.length then some b else ς l i
 |[],d,v,i=>by simp[F2,ς]
 |x::xs,0,v,0=>by simp[F2,ς]
 |x::xs,0,v,i+1=>by simp[F2,ς]
 |x::xs,d+1,v,0=>by simp[F2,ς]
 |x::xs,d+1,v,i+1=>by simp[F2,ς,Ŗ xs d v i]
def pV:∀(l:AS Bd) (d:Nat) (b:Bd),(F2 l d b).length=l.length
 |[],_,_=>rfl
 |_::_,0,_=>rfl
 |_::xs,d+1,v=>by simp[F2,pV xs d v]
def tf:∀{l:AS Bd} {i:Nat} {b:Bd},ς l i=some b->i<l.length
 |[],_,_,h=>by cases h
 |_::_,0,_,_=>gE _
 |_::_,i+1,_,h=>Nat.succ_lt_succ (tf (by simpa[ς] using h))
def į {M M':Mt} {i id:Nat} (e:DF M i id=some M'):Ext M M'/\ς M'.bd i=some (.at_ id)/\M'.cons=M.cons/\M'.vars=M.vars:=by
 unfold DF at e
 split at e<;>try (cases e; done)
 ·rename_i b;cases e;have d:=tf b;refine⟨⟨fun j c q=>?_,fun j q=>?_,fun j q=>?_,dW,dW,fun _ q=>q,pV _ _ _⟩,by simp[Ŗ,d],rfl,rfl⟩
  ·simp only[Ŗ]
   by_cases a:j=i
   ·subst a; rw[b] at q; cases q
   ·simp[a,q]
  ·simp only[Ŗ]
   by_cases a:j=i
   ·subst a; rw[b] at q; cases q
   ·simp[a,q]
  ·simp only[Ŗ]
   by_cases a:j=i
   ·subst a; rw[b] at q; cases q
   ·simp[a,q]
 ·rename_i c b
  split at e<;>try (cases e; done)
  rename_i hi;cases e;rw[eq_of_beq hi] at b;exact⟨Ext.refl _,b,rfl,rfl⟩
def FX {M M':Mt} {i:Nat} (e:Xm M i=some M'):Ext M M'/\ς M'.bd i=some .new/\M'.cons=M.cons/\M'.vars=M.vars:=by
 unfold Xm at e
 split at e<;>try (cases e; done)
 rename_i b;cases e;have c:=tf b;refine⟨⟨fun j d q=>?_,fun j q=>?_,fun j q=>?_,dW,dW,fun _ q=>q,pV _ _ _⟩,by simp[Ŗ,c],rfl,rfl⟩
 ·simp only[Ŗ]
  by_cases a:j=i
  ·subst a; rw[b] at q; cases q
  ·simp[a,q]
 ·simp only[Ŗ]
  by_cases a:j=i
  ·subst a; rw[b] at q; cases q
  ·simp[a,q]
 ·simp only[Ŗ]
  by_cases a:j=i
  ·subst a; rw[b] at q; cases q
  ·simp[a,q]
def DE {M M':Mt} {i:Nat} (e:QV M i=some M'):Ext M M'/\ς M'.bd i=some .newd/\M'.cons=M.cons/\M'.vars=M.vars:=by
 unfold QV at e
 split at e<;>try (cases e; done)
 rename_i b;cases e;have c:=tf b;refine⟨⟨fun j d q=>?_,fun j q=>?_,fun j q=>?_,dW,dW,fun _ q=>q,pV _ _ _⟩,by simp[Ŗ,c],rfl,rfl⟩
 ·simp only[Ŗ]
  by_cases a:j=i
  ·subst a; rw[b] at q; cases q
  ·simp[a,q]
 ·simp only[Ŗ]
  by_cases a:j=i
  ·subst a; rw[b] at q; cases q
  ·simp[a,q]
 ·simp only[Ŗ]
  by_cases a:j=i
  ·subst a; rw[b] at q; cases q
  ·simp[a,q]
def kin:Blk->Blk->Prop
 |.row t _ false xs,B=>B=.row t 0 false xs
 |.row t g true xs,B=>B=.row t g true xs
 |.map k v es,B=>B=.map k v es
 |.cells _,B=>∃b,B=.cells b
 |.dead,B=>B=.dead
 |.deep k _ xss,B=>B=.deep k 0 xss
 |.acc t xs,B=>B=.acc t xs
 |.fns _,B=>∃a,B=.fns a
 |.iter s q,B=>B=.iter s q
structure Fin (ν:Nat->Value) (h:AS Blk) (w:World) (M:Mt) (h':AS Blk):Prop where
 at_:∀i id,ς M.bd i=some (.at_ id)->kin (lkB h id) (lkB h' i)
 new:∀i,ς M.bd i=some .new->∃t,lkB h' i=.row t 0 false []
 newd:∀i,ς M.bd i=some .newd->∃k,lkB h' i=.deep k 0 []
 out:∀i,(∀id,ς M.bd i≠some (.at_ id))->ς M.bd i≠some .new->ς M.bd i≠some .newd->lkB h' i=.dead
 freed:∀id∈M.freed,∀i,ς M.bd i≠some (.at_ id)
 inj:∀i j id,ς M.bd i=some (.at_ id)->ς M.bd j=some (.at_ id)->i=j
def Fin.live {M:Mt} (F:Fin ν h w M h') {b:Nat} (hb:uM (νb M.bd ν) h' b):∃i id,ς M.bd i=some (.at_ id)/\(lkB h id).live=true/\ę (ν id) b:=by
 obtain⟨i,c,d⟩:=hb
 cases a:ς M.bd i with
 |none=>rw[F.out i (by simp[a]) (by simp[a]) (by simp[a])] at c; cases c
 |some bd =>
  cases bd with
  |open_=>rw[F.out i (by simp[a]) (by simp[a]) (by simp[a])] at c; cases c
  |new=>simp only[νb,a] at d; cases d
  |newd =>
   simp only[νb,a] at d;obtain⟨u,j,hb⟩:=d;simp at j;subst j;cases hb
  |at_ id =>
   refine⟨i,id,a,?_,by simpa[νb,a] using d⟩;have f:=F.at_ i id a
   cases e:lkB h id with
   |dead=>rw[e] at f; rw[show lkB h' i=_ from f] at c; cases c
   |cells=>rfl
   |map=>rfl
   |deep=>rfl
   |acc=>rfl
   |fns=>rfl
   |iter=>rfl
   |row t g fz xs =>
    cases fz with
    |false=>rfl
    |true=>rw[e] at f; rw[show lkB h' i=_ from f] at c; cases c
def Fin.subL {M:Mt} (F:Fin ν h w M h') (b:Nat) (hb:uM (νb M.bd ν) h' b):uM ν h b:=by
 obtain⟨i,id,_,h2,a⟩:=F.live hb;exact⟨id,h2,a⟩
def Fin.sub {M:Mt} (F:Fin ν h w M h') (b:Nat) (hb:Av (νb M.bd ν) h' b):Av ν h b:=hb.imp_left (F.subL b)
def Y9 (H:HR ν h w) {M:Mt} (F:Fin ν h w M h') {t:Ty} {v:AV} {u:Value} {x:Val t} (A:∀i∈Ov h v,i∈M.freed) (e:Ù t [ñ h v]=some x) (z:VR ν h w v u) :
 VR (νb M.bd ν) h' w (aaP ⟨t,x⟩) u:=by
 have c:∀(q:v.isAgg=false) (p:v.isTup=false),CR w (Av (νb M.bd ν) h') t x [u]:=by
  intro q p;have m:=z.one q p;refine Ĝ e ⟨AJ H F.sub m fun id b B l hb=>?_,trivial⟩;rintro(hlive|s)
  rotate_left
  ·exact H.ghG id b l hb s
  obtain⟨i,o,h2,E,C⟩:=F.live hlive;have r:id=o:=H.inj id o b l E hb C;subst r;refine F.freed id (A id ?_) i h2;rcases B with⟨g,rfl⟩|⟨g,lo,n,rfl⟩|rfl
  ·obtain⟨_,y,g',fz,xs,j,_⟩:=m;rw[j] at l
   cases fz with
   |true=>cases l
   |false=>simp[Ov,j]
  ·obtain⟨_,y,g',fz,xs,j,_⟩:=m;rw[j] at l
   cases fz with
   |true=>cases l
   |false=>simp[Ov,j]
  ·simp[Ov]
 have fin:(t≠.unit/\∀a b,t≠.pair a b)->v.isAgg=false/\v.isTup=false:=fun⟨m,h2⟩=>by
  constructor
  ·cases v<;>try rfl
   cases t<;>first|(exact absurd rfl m)|(exact absurd rfl (h2 _ _))|(simp[ñ,Ù,Ő] at e)
  ·cases v<;>try rfl
   cases t<;>first|(exact absurd rfl m)|(exact absurd rfl (h2 _ _))|(simp[ñ,Ù,Ő] at e)
 cases t with
 |unit=>trivial
 |pair a b=>trivial
 |bool=>obtain⟨f,d⟩:=fin ⟨by simp,by simp⟩; exact Dl (c f d)
 |int k=>obtain⟨f,d⟩:=fin ⟨by simp,by simp⟩; exact Dl (c f d)
 |str=>obtain⟨f,d⟩:=fin ⟨by simp,by simp⟩; exact Dl (c f d)
 |slice t=>obtain⟨f,d⟩:=fin ⟨by simp,by simp⟩; exact Dl (c f d)
 |fsl t=>obtain⟨f,d⟩:=fin ⟨by simp,by simp⟩; exact Dl (c f d)
 |map k v=>obtain⟨f,d⟩:=fin ⟨by simp,by simp⟩; exact Dl (c f d)
 |ptr t=>obtain⟨f,d⟩:=fin ⟨by simp,by simp⟩; exact Dl (c f d)
def Ă {α:Type} {l C:AS α} {d:α} (h:(l++[d]) <+: C):C.drop l.length=d::C.drop (l.length+1):=by
 obtain⟨t,rfl⟩:=h;simp[dj]
def ip {B:AS Bd} {i id:Nat} (h:ς B i=some (.at_ id)):νb B ν i=ν id:=by simp[νb,h]
def abD {B:AS Bd} {i:Nat} (h:ς B i=some .new):νb B ν i=.slice none 0 0:=by simp[νb,h]
def Xv {B:AS Bd} {i:Nat} (h:ς B i=some .newd):νb B ν i=.agg [Value.slice none 0 0].toArray:=by simp[νb,h]
def ű:∀(ps:AS (Nat×Nat)) (vs:AS AV) (us:AS Value) (M M1:Mt),qU h ps vs M=some M1->Ext M M1/\M1.cons=M.cons/\M1.vars=M.vars /\
 ∀a,Ext M1 a->Fin ν h w a h'->ò (VR0 ν h w) vs us->ò (VR0 (νb a.bd ν) h' w) (ps.map fun c=>.box c.1 c.2) us
 |[],[],us,M,M1,e=>by
  cases e;exact⟨Ext.refl _,rfl,rfl,fun a _ _ d=>by cases us with|nil=>trivial|cons=>exact d.elim⟩
 |[],_::_,_,_,_,e=>by cases e
 |_::_,[],_,_,_,e=>by cases e
 |(i,o)::ps,v::vs,us,M,M1,e=>by
  cases v<;>try (simp[qU] at e; done)
  rename_i id off;simp only[qU] at e
  split at e<;>try (cases e; done)
  rename_i r
  split at e<;>try (cases e; done)
  rename_i cs s
  split at e<;>try (cases e; done)
  rename_i n hb;obtain⟨y,C,B,q⟩:=į hb;obtain⟨m,A,p,_⟩:=ű ps vs us n M1 e;refine⟨y.trans m,A.trans B,p.trans q,fun a l F d=>?_⟩
  cases us with
  |nil=>exact d.elim
  |cons u us =>
   refine⟨?_,(ű ps vs us n M1 e).2.2.2 a l F d.2⟩;obtain⟨z,b,E,h2,x⟩:=d.1;have f:=l.bd i id (m.bd i id C);have j:=F.at_ i id f;rw[s] at j;obtain⟨k,j⟩:=j;exact⟨k,b,j,(ip f).trans h2,by rw[eq_of_beq r]; exact x⟩
def nl:∀(ps:AS (ByteArray×Nat×AS (Nat×Nat))) (es:AS (ByteArray×AV)) (ms:AS MapEntry) (M M1:Mt),Hg h ps es M=some M1->Ext M M1/\M1.cons=M.cons/\M1.vars=M.vars /\
 ∀a,Ext M1 a->Fin ν h w a h'->Q9 ν h w es ms->Q9 (νb a.bd ν) h' w (ps.map fun e=>(e.1,.fn (.func e.2.1) [] (e.2.2.map fun c=>.box c.1 c.2))) ms
 |[],[],ms,M,M1,e=>by
  cases e;exact⟨Ext.refl _,rfl,rfl,fun a _ _ b=>by cases ms with|nil=>trivial|cons=>exact b.elim⟩
 |[],_::_,_,_,_,e=>by cases e
 |_::_,[],_,_,_,e=>by cases e
 |p::ps,x::es,ms,M,M1,e=>by
  obtain⟨s,v⟩:=x;simp only[Hg] at e
  split at e<;>try (cases e; done)
  rename_i f vs
  split at e<;>try (cases e; done)
  rename_i i;simp only[cM] at i;have y:=XL.1 i.1;have z:=cZ i.2;subst z
  split at e<;>try (cases e; done)
  rename_i d k;obtain⟨B,E,q,_⟩:=ű (ν:=ν) (w:=w) (h':=h') p.2.2 vs [] M d k;obtain⟨n,C,o,_⟩:=nl ps es ms d M1 e;refine⟨B.trans n,C.trans E,o.trans q,fun a l F b=>?_⟩
  cases ms with
  |nil=>exact b.elim
  |cons m ms =>
   refine⟨?_,(nl ps es ms d M1 e).2.2.2 a l F b.2⟩;obtain⟨j,h2,fs,cs,A,u,r⟩:=b.1;have j:m.key=.string s:=j;have:=(ű (ν:=ν) (w:=w) (h':=h') p.2.2 vs cs.toList M d k).2.2.2 a (n.trans l) F r;exact⟨by rw[j,<-y],rfl,fs,cs,A,by rw[u.nil_left]; trivial,this⟩
def rest (a M:Mt):It:=⟨a.cons.drop M.cons.length,a.vars.drop M.vars.length⟩
def qm:∀(ts:AS Ty) (vs:AS AV) (M M1:Mt),vm ts vs M=some M1->Ext M M1/\∀a,Ext M1 a->(xi ts (rest a M)).2=rest a M1 /\
 ∀us:AS Value,Fin ν h w a h'->ò (VR0 ν h w) vs us->ò (VR0 (νb a.bd ν) h' w) (xi ts (rest a M)).1 us
 |[],[],M,M1,e=>by
  cases e;exact⟨Ext.refl _,fun a _=>⟨rfl,fun us _ c=>by cases us with|nil=>trivial|cons=>exact c.elim⟩⟩
 |[],_::_,_,_,e=>by cases e
 |_::_,[],_,_,e=>by cases e
 |t::ts,v::vs,M,M1,e=>by
  cases v<;>try (simp[vm] at e; done)
  rename_i f x o;simp only[vm] at e
  split at e<;>try (cases e; done)
  rename_i d
  split at e<;>try (cases e; done)
  rename_i B _;have d:=cZ d;subst d;obtain⟨l,n⟩:=qm ts vs _ M1 e;have A:Ext M {M with cons:=M.cons++[⟨.ptr f,x⟩]}:=⟨fun _ _ q=>q,fun _ q=>q,fun _ q=>q,eo _ _,dW,fun _ q=>q,rfl⟩;refine⟨A.trans l,fun a k=>?_⟩;obtain⟨j,i⟩:=n a k;have hd:=Ă (l.trans k).cons
  have p:rest a {M with cons:=M.cons++[⟨.ptr f,x⟩]}=⟨a.cons.drop (M.cons.length+1),a.vars.drop M.vars.length⟩:=by simp[rest]
  rw[p] at j i;simp only[rest,xi,hd];refine⟨j,fun us F c=>?_⟩
  cases us with
  |nil=>exact c.elim
  |cons u us =>
   refine⟨?_,i us F c.2⟩;obtain⟨b,o,m,z,h2,y,s,r⟩:=c.1;exact⟨b,o,m,z,fun h=>h2 (F.sub b h),y,CR.mono F.sub s,r⟩
def Ik (H:HR ν h w) {p:Pat} {v:AV} {M M1:Mt} (e:ő h p v M=some M1):Ext M M1/\∀d u,Ext M1 d->Fin ν h w d h'->VR ν h w v u ->
 VR (νb d.bd ν) h' w (oR p ⟨d.cons.drop M.cons.length,d.vars.drop M.vars.length⟩).1 u /\
  (oR p ⟨d.cons.drop M.cons.length,d.vars.drop M.vars.length⟩).2=⟨d.cons.drop M1.cons.length,d.vars.drop M1.vars.length⟩:=by
 cases p with
 |any=>cases e; exact⟨Ext.refl _,fun d u _ _ _=>⟨trivial,rfl⟩⟩
 |con t =>
  simp only[ő] at e
  split at e<;>try (cases e; done)
  rename_i x L;cases e;refine⟨⟨fun _ _ q=>q,fun _ q=>q,fun _ q=>q,eo _ _,dW,fun _ q=>dI _ q,rfl⟩,fun d u l F c=>?_⟩;have hd:=Ă l.cons;simp only[oR,hd];exact⟨Y9 H F (fun i hi=>l.freed i (dU _ hi)) L c,by simp⟩
 |var t =>
  simp only[ő] at e
  split at e<;>try (cases e; done)
  rename_i x L;cases e;refine⟨⟨fun _ _ q=>q,fun _ q=>q,fun _ q=>q,dW,eo _ _,fun _ q=>dI _ q,rfl⟩,fun d u l F c=>?_⟩;have hd:=Ă l.vars;simp only[oR,hd];exact⟨Y9 H F (fun i hi=>l.freed i (dU _ hi)) L c,by simp⟩
 |own i =>
  simp only[ő] at e
  split at e<;>try (cases e; done)
  ·rename_i id g
   split at e<;>try (cases e; done)
   rename_i t g' xs z
   split at e<;>try (cases e; done)
   rename_i N;obtain⟨m,y,r,n⟩:=į e;refine⟨m,fun d u l F c=>⟨?_,by simp only[oR,r,n]⟩⟩;have a:=l.bd i id y;have j:=F.at_ i id a;rw[z] at j;obtain⟨C,t2,g2,fz2,W,o,_,B⟩:=c;rw[z] at o; cases o;exact⟨C,t,0,false,xs,j,cJ _,fun _=>(B (eq_of_beq N)).trans (ip a).symm⟩
  ·obtain⟨m,y,r,n⟩:=FX e;refine⟨m,fun d u l F c=>⟨?_,by simp only[oR,r,n]⟩⟩;have A:=l.new i y;obtain⟨t,j⟩:=F.new i A;have E:u=.slice none 0 0:=c;exact⟨by rw[E]; rfl,t,0,false,[],j,cJ _,fun _=>E.trans (abD A).symm⟩
 |dp i =>
  simp only[ő] at e
  split at e<;>try (cases e; done)
  ·rename_i id g
   split at e<;>try (cases e; done)
   rename_i k g' xss z
   split at e<;>try (cases e; done)
   rename_i N;obtain⟨m,y,r,n⟩:=į e;refine⟨m,fun d u l F c=>⟨?_,by simp only[oR,r,n]⟩⟩;have a:=l.bd i id y;have j:=F.at_ i id a;rw[z] at j;obtain⟨C,K,g2,U,o,_,B⟩:=c;rw[z] at o; cases o;exact⟨C,k,0,xss,j,cJ _,fun _=>by rw[ip a]; exact B (eq_of_beq N)⟩
  ·obtain⟨m,y,r,n⟩:=DE e;refine⟨m,fun d u l F c=>⟨?_,by simp only[oR,r,n]⟩⟩;have A:=l.newd i y;obtain⟨k,j⟩:=F.newd i A;have E:u=.slice none 0 0:=c;exact⟨by rw[E]; rfl,k,0,[],j,cJ _,fun _=>⟨[],by rw[Xv A,E]⟩⟩
 |omp i =>
  simp only[ő] at e
  split at e<;>try (cases e; done)
  rename_i id
  split at e<;>try (cases e; done)
  rename_i k Y es z;obtain⟨m,y,r,n⟩:=į e;refine⟨m,fun d u l F c=>⟨?_,by simp only[oR,r,n]⟩⟩;have a:=l.bd i id y;have j:=F.at_ i id a;rw[z] at j;obtain⟨C,K,v2,R,o,B⟩:=c;exact⟨C,k,Y,es,j,B.trans (ip a).symm⟩
 |box i off =>
  simp only[ő] at e
  split at e<;>try (cases e; done)
  rename_i id V
  split at e<;>try (cases e; done)
  rename_i G
  split at e<;>try (cases e; done)
  rename_i cs z;obtain⟨m,y,r,n⟩:=į e;refine⟨m,fun d u l F c=>⟨?_,by simp only[oR,r,n]⟩⟩;have a:=l.bd i id y;have j:=F.at_ i id a;rw[z] at j;obtain⟨T,j⟩:=j;obtain⟨cs',b,h1,h2,h3⟩:=c;exact⟨T,b,j,(ip a).trans h2,by rw[eq_of_beq G]; exact h3⟩
 |nils =>
  simp only[ő] at e
  split at e<;>try (cases e; done)
  cases e;exact⟨Ext.refl _,fun d u _ _ c=>⟨c,rfl⟩⟩
 |nilp =>
  simp only[ő] at e
  split at e<;>try (cases e; done)
  cases e;exact⟨Ext.refl _,fun d u _ _ c=>⟨c,rfl⟩⟩
 |nilfn =>
  simp only[ő] at e
  split at e<;>try (cases e; done)
  cases e;exact⟨Ext.refl _,fun d u _ _ c=>⟨c,rfl⟩⟩
 |yld =>
  simp only[ő] at e
  split at e<;>try (cases e; done)
  cases e;exact⟨Ext.refl _,fun d u _ _ c=>⟨c,rfl⟩⟩
 |ofn i =>
  simp only[ő] at e
  split at e<;>try (cases e; done)
  rename_i id
  split at e<;>try (cases e; done)
  rename_i es z;obtain⟨m,y,r,n⟩:=į e;refine⟨m,fun d u l F c=>⟨?_,by simp only[oR,r,n]⟩⟩;have a:=l.bd i id y;have j:=F.at_ i id a;rw[z] at j;obtain⟨S,j⟩:=j;obtain⟨C,R,o,B⟩:=c;exact⟨C,S,j,B.trans (ip a).symm⟩
 |oit i =>
  simp only[ő] at e
  split at e<;>try (cases e; done)
  rename_i id
  split at e<;>try (cases e; done)
  rename_i s q z;obtain⟨m,y,r,n⟩:=į e;refine⟨m,fun d u l F c=>⟨?_,by simp only[oR,r,n]⟩⟩;have a:=l.bd i id y;have j:=F.at_ i id a;rw[z] at j;obtain⟨C,s2,I,o,B⟩:=c;exact⟨C,s,q,j,B.trans (ip a).symm⟩
 |fn f caps =>
  simp only[ő] at e
  split at e<;>try (cases e; done)
  rename_i f' vs
  split at e<;>try (cases e; done)
  rename_i O;obtain⟨m,r,n,_⟩:=ű (ν:=ν) (w:=w) (h':=h') caps vs [] M M1 e;refine⟨m,fun d u l F c=>⟨?_,by simp only[oR,r,n]⟩⟩;obtain⟨fs,cs,rfl,J,I⟩:=c;have:=(ű (ν:=ν) (w:=w) (h':=h') caps vs cs.toList M M1 e).2.2.2 d l F I;exact⟨fs,cs,by rw[eq_of_beq O],by rw[J.nil_left]; trivial,this⟩
 |fnd f ts =>
  simp only[ő] at e
  split at e<;>try (cases e; done)
  rename_i f' vs
  split at e<;>try (cases e; done)
  rename_i O;obtain⟨m,k⟩:=qm (ν:=ν) (h:=h) (w:=w) (h':=h') ts vs M M1 e;refine⟨m,fun d u l F c=>?_⟩;obtain⟨Z,K⟩:=k d l;obtain⟨fs,cs,rfl,J,I⟩:=c;exact⟨⟨fs,cs,by rw[eq_of_beq O],by rw[J.nil_left]; trivial,K cs.toList F I⟩,Z⟩
def qi {a M M1:Mt} (b:M1.cons=M.cons) (h2:M1.vars=M.vars):rest a M=rest a M1:=by simp only[rest,b,h2]
def su {p:Pat} {v:AV} {M M1:Mt} (e:ő h p v M=some M1):Ext M M1/\∀a,Ext M1 a->(oR p (rest a M)).2=rest a M1:=by
 cases p with
 |any=>cases e; exact⟨Ext.refl _,fun a _=>rfl⟩
 |con t =>
  simp only[ő] at e
  split at e<;>try (cases e; done)
  rename_i x m;cases e;refine⟨⟨fun _ _ q=>q,fun _ q=>q,fun _ q=>q,eo _ _,dW,fun _ q=>dI _ q,rfl⟩,fun a j=>?_⟩;have hd:=Ă j.cons;simp only[rest,oR,hd]; simp
 |var t =>
  simp only[ő] at e
  split at e<;>try (cases e; done)
  rename_i x m;cases e;refine⟨⟨fun _ _ q=>q,fun _ q=>q,fun _ q=>q,dW,eo _ _,fun _ q=>dI _ q,rfl⟩,fun a j=>?_⟩;have hd:=Ă j.vars;simp only[rest,oR,hd]; simp
 |own i =>
  simp only[ő] at e
  split at e<;>try (cases e; done)
  ·split at e<;>try (cases e; done)
   split at e<;>try (cases e; done)
   obtain⟨b,l,d,c⟩:=į e;exact⟨b,fun a j=>qi d c⟩
  ·obtain⟨b,l,d,c⟩:=FX e;exact⟨b,fun a j=>qi d c⟩
 |dp i =>
  simp only[ő] at e
  split at e<;>try (cases e; done)
  ·split at e<;>try (cases e; done)
   split at e<;>try (cases e; done)
   obtain⟨b,l,d,c⟩:=į e;exact⟨b,fun a j=>qi d c⟩
  ·obtain⟨b,l,d,c⟩:=DE e;exact⟨b,fun a j=>qi d c⟩
 |omp i =>
  simp only[ő] at e
  split at e<;>try (cases e; done)
  split at e<;>try (cases e; done)
  obtain⟨b,l,d,c⟩:=į e;exact⟨b,fun a j=>qi d c⟩
 |box i off =>
  simp only[ő] at e
  split at e<;>try (cases e; done)
  split at e<;>try (cases e; done)
  split at e<;>try (cases e; done)
  obtain⟨b,l,d,c⟩:=į e;exact⟨b,fun a j=>qi d c⟩
 |nils =>
  simp only[ő] at e
  split at e<;>try (cases e; done)
  cases e; exact⟨Ext.refl _,fun a _=>rfl⟩
 |nilp =>
  simp only[ő] at e
  split at e<;>try (cases e; done)
  cases e; exact⟨Ext.refl _,fun a _=>rfl⟩
 |nilfn =>
  simp only[ő] at e
  split at e<;>try (cases e; done)
  cases e; exact⟨Ext.refl _,fun a _=>rfl⟩
 |yld =>
  simp only[ő] at e
  split at e<;>try (cases e; done)
  cases e; exact⟨Ext.refl _,fun a _=>rfl⟩
 |ofn i =>
  simp only[ő] at e
  split at e<;>try (cases e; done)
  split at e<;>try (cases e; done)
  obtain⟨b,l,d,c⟩:=į e;exact⟨b,fun a j=>qi d c⟩
 |oit i =>
  simp only[ő] at e
  split at e<;>try (cases e; done)
  split at e<;>try (cases e; done)
  obtain⟨b,l,d,c⟩:=į e;exact⟨b,fun a j=>qi d c⟩
 |fn f caps =>
  simp only[ő] at e
  split at e<;>try (cases e; done)
  rename_i n vs
  split at e<;>try (cases e; done)
  obtain⟨b,d,c,_⟩:=ű (ν:=fun _=>undef) (w:=default) (h':=[]) caps vs [] M M1 e;exact⟨b,fun a j=>qi d c⟩
 |fnd f ts =>
  simp only[ő] at e
  split at e<;>try (cases e; done)
  rename_i n vs
  split at e<;>try (cases e; done)
  obtain⟨b,k⟩:=qm (ν:=fun _=>undef) (h:=[]) (w:=default) (h':=[]) ts vs M M1 e;exact⟨b,fun a j=>(k a j).1⟩
def rO (p:Pat) (ps:AS Pat) (I:It):EC (p::ps) I=((oR p I).1::(EC ps (oR p I).2).1,(EC ps (oR p I).2).2):=rfl
def zR:∀{ps:AS Pat} {vs:AS AV} {M M1:Mt},NE h ps vs M=some M1->Ext M M1/\∀a,Ext M1 a->(EC ps (rest a M)).2=rest a M1
 |[],vs,M,M1,e=>by cases e; exact⟨Ext.refl _,fun a _=>rfl⟩
 |p::ps,vs,M,M1,e=>by
  simp only[NE] at e
  split at e<;>try (cases e; done)
  rename_i j f;obtain⟨i,d⟩:=su f;obtain⟨c,t2⟩:=zR e;exact⟨i.trans c,fun a b=>by rw[rO,d a (c.trans b)]; exact t2 a b⟩
def SY (H:HR ν h w):∀{ps:AS Pat} {vs:AS AV} {M M1:Mt},NE h ps vs M=some M1->∀a,Ext M1 a->Fin ν h w a h'->∀f:Nat->Value,(∀k,VR ν h w (lk vs k) (f k)) ->
 ∀k,VR (νb a.bd ν) h' w (lk (EC ps (rest a M)).1 k) (f k)
 |[],vs,M,M1,e,a,_,_,f,_,k=>trivial
 |p::ps,vs,M,M1,e,a,b,F,f,c,k=>by
  simp only[NE] at e
  split at e<;>try (cases e; done)
  rename_i n d;obtain⟨m,j⟩:=su d;obtain⟨i,t2⟩:=zR e;rw[rO,j a (i.trans b)]
  cases k with
  |zero=>exact((Ik H d).2 a (f 0) (i.trans b) F (c 0)).1
  |succ k =>
   have l:∀k,lk vs.tail k=lk vs (k+1):=fun k=>by cases vs<;>rfl
   exact SY H e a b F (fun k=>f (k+1)) (fun k=>by rw[l]; exact c (k+1)) k
def oD:∀{ps:AS Pat} {vs:AS AV} {M M1:Mt},od h ps vs M=some M1->Ext M M1/\∀a,Ext M1 a->(EC ps (rest a M)).2=rest a M1
 |[],[],M,M1,e=>by cases e; exact⟨Ext.refl _,fun a _=>rfl⟩
 |[],_::_,M,M1,e=>by cases e
 |_::_,[],M,M1,e=>by cases e
 |p::ps,v::vs,M,M1,e=>by
  simp only[od] at e
  split at e<;>try (cases e; done)
  rename_i j f;obtain⟨i,d⟩:=su f;obtain⟨c,t2⟩:=oD e;exact⟨i.trans c,fun a b=>by rw[rO,d a (c.trans b)]; exact t2 a b⟩
def aaC (p:Pat) (I:It):(oR p I).1.isAgg=false/\(oR p I).1.isTup=false:=by
 have a:∀d:DV,(aaP d).isAgg=false/\(aaP d).isTup=false:=fun d=>by
  obtain⟨t,x⟩:=d
  cases t<;>exact⟨rfl,rfl⟩
 cases p<;>simp only[oR]<;>try exact⟨rfl,rfl⟩
 ·split<;>first|exact a _|exact⟨rfl,rfl⟩
 ·split<;>first|exact a _|exact⟨rfl,rfl⟩
def Bi (H:HR ν h w):∀{ps:AS Pat} {vs:AS AV} {us:AS Value} {M M1:Mt},od h ps vs M=some M1->∀a,Ext M1 a->Fin ν h w a h'->ò (VRc ν h w) vs us ->
 ò (VRc (νb a.bd ν) h' w) (EC ps (rest a M)).1 us
 |[],[],us,M,M1,e,a,_,_,b=>by cases us with|nil=>trivial|cons=>exact b.elim
 |[],_::_,_,M,M1,e,_,_,_,_=>by cases e
 |_::_,[],_,M,M1,e,_,_,_,_=>by cases e
 |p::ps,v::vs,us,M,M1,e,a,d,F,b=>by
  simp only[od] at e
  split at e<;>try (cases e; done)
  rename_i l f;obtain⟨k,j⟩:=su f;obtain⟨i,t2⟩:=oD e;rw[rO,j a (i.trans d)]
  cases us with
  |nil=>exact b.elim
  |cons u us =>
   have h2:=((Ik H f).2 a u (i.trans d) F b.1.1.up).1;have c:=aaC p (rest a M);exact⟨⟨h2.one c.1 c.2,b.1.2⟩,Bi H e a d F b.2⟩
def xD (M:Mt) (d:DV):Ext M {M with cons:=M.cons++[d]}:=⟨fun _ _ q=>q,fun _ q=>q,fun _ q=>q,eo _ _,dW,fun _ q=>q,rfl⟩
def tP (M:Mt) (d:DV):Ext M {M with vars:=M.vars++[d]}:=⟨fun _ _ q=>q,fun _ q=>q,fun _ q=>q,dW,eo _ _,fun _ q=>q,rfl⟩
def zS {p:iy} {i:Nat} {M M1:Mt} (e:Ģ h p i M=some M1):Ext M M1/\∀c,Ext M1 c->(oQ p (rest c M)).2=rest c M1 /\
 ((∃id,ς M.bd i=some (.at_ id)/\kin (lkB h id) (oQ p (rest c M)).1)\/(ς M.bd i=some .new/\∃t,(oQ p (rest c M)).1=.row t 0 false [])\/(ς M.bd i=some .newd/\∃k,(oQ p (rest c M)).1=.deep k 0 [])):=by
 cases p with
 |dead =>
  simp only[Ģ] at e
  split at e<;>try (cases e; done)
  rename_i id hb
  split at e<;>try (cases e; done)
  rename_i b;cases e;exact⟨Ext.refl _,fun c _=>⟨rfl,.inl ⟨id,hb,by rw[b]; rfl⟩⟩⟩
 |cells ps =>
  simp only[Ģ] at e
  split at e<;>try (cases e; done)
  rename_i id hb
  split at e<;>try (cases e; done)
  rename_i cs b;obtain⟨l,o⟩:=oD e;exact⟨l,fun c a=>⟨o c a,.inl ⟨id,hb,by rw[b]; exact⟨_,rfl⟩⟩⟩⟩
 |rowc t =>
  simp only[Ģ] at e
  split at e<;>try (cases e; done)
  ·rename_i id hb
   split at e<;>try (cases e; done)
   rename_i d g xs b
   split at e<;>try (cases e; done)
   cases e;refine⟨xD _ _,fun c a=>?_⟩;have hd:=Ă a.cons;simp only[rest,oQ,hd];exact⟨by simp,.inl ⟨id,hb,by rw[b]; rfl⟩⟩
  ·rename_i hb;cases e;refine⟨xD _ _,fun c a=>?_⟩;have hd:=Ă a.cons;simp only[rest,oQ,hd];exact⟨by simp,.inr (.inl ⟨hb,t,rfl⟩)⟩
 |rowf t g =>
  simp only[Ģ] at e
  split at e<;>try (cases e; done)
  rename_i id hb
  split at e<;>try (cases e; done)
  rename_i d g' xs b
  split at e<;>try (cases e; done)
  split at e<;>try (cases e; done)
  rename_i r _;subst r;cases e;refine⟨xD _ _,fun c a=>?_⟩;have hd:=Ă a.cons;simp only[rest,oQ,hd];exact⟨by simp,.inl ⟨id,hb,by rw[b]; rfl⟩⟩
 |rowv t =>
  simp only[Ģ] at e
  split at e<;>try (cases e; done)
  ·rename_i id hb
   split at e<;>try (cases e; done)
   rename_i d g xs b
   split at e<;>try (cases e; done)
   cases e;refine⟨tP _ _,fun c a=>?_⟩;have hd:=Ă a.vars;simp only[rest,oQ,hd];exact⟨by simp,.inl ⟨id,hb,by rw[b]; rfl⟩⟩
  ·rename_i hb;cases e;refine⟨tP _ _,fun c a=>?_⟩;have hd:=Ă a.vars;simp only[rest,oQ,hd];exact⟨by simp,.inr (.inl ⟨hb,t,rfl⟩)⟩
 |mapc k v =>
  simp only[Ģ] at e
  split at e<;>try (cases e; done)
  rename_i id hb
  split at e<;>try (cases e; done)
  rename_i f n es b
  split at e<;>try (cases e; done)
  cases e;refine⟨xD _ _,fun c a=>?_⟩;have hd:=Ă a.cons;simp only[rest,oQ,hd];exact⟨by simp,.inl ⟨id,hb,by rw[b]; rfl⟩⟩
 |mapv k v =>
  simp only[Ģ] at e
  split at e<;>try (cases e; done)
  rename_i id hb
  split at e<;>try (cases e; done)
  rename_i f n es b
  split at e<;>try (cases e; done)
  cases e;refine⟨tP _ _,fun c a=>?_⟩;have hd:=Ă a.vars;simp only[rest,oQ,hd];exact⟨by simp,.inl ⟨id,hb,by rw[b]; rfl⟩⟩
 |deepc k =>
  simp only[Ģ] at e
  split at e<;>try (cases e; done)
  ·rename_i id hb
   split at e<;>try (cases e; done)
   rename_i f g xss b
   split at e<;>try (cases e; done)
   cases e;refine⟨xD _ _,fun c a=>?_⟩;have hd:=Ă a.cons;simp only[rest,oQ,hd];exact⟨by simp,.inl ⟨id,hb,by rw[b]; rfl⟩⟩
  ·rename_i hb;cases e;refine⟨xD _ _,fun c a=>?_⟩;have hd:=Ă a.cons;simp only[rest,oQ,hd];exact⟨by simp,.inr (.inr ⟨hb,k,rfl⟩)⟩
 |deepv k =>
  simp only[Ģ] at e
  split at e<;>try (cases e; done)
  ·rename_i id hb
   split at e<;>try (cases e; done)
   rename_i f g xss b
   split at e<;>try (cases e; done)
   cases e;refine⟨tP _ _,fun c a=>?_⟩;have hd:=Ă a.vars;simp only[rest,oQ,hd];exact⟨by simp,.inl ⟨id,hb,by rw[b]; rfl⟩⟩
  ·rename_i hb;cases e;refine⟨tP _ _,fun c a=>?_⟩;have hd:=Ă a.vars;simp only[rest,oQ,hd];exact⟨by simp,.inr (.inr ⟨hb,k,rfl⟩)⟩
 |fns es =>
  simp only[Ģ] at e
  split at e<;>try (cases e; done)
  rename_i id hb
  split at e<;>try (cases e; done)
  rename_i j b;obtain⟨l,u,m,_⟩:=nl (ν:=fun _=>undef) (w:=default) (h':=[]) es j [] M M1 e;exact⟨l,fun c a=>⟨qi u m,.inl ⟨id,hb,by rw[b]; exact⟨_,rfl⟩⟩⟩⟩
 |acc t =>
  simp only[Ģ] at e
  split at e<;>try (cases e; done)
  rename_i id hb
  split at e<;>try (cases e; done)
  rename_i d xs b
  split at e<;>try (cases e; done)
  cases e;refine⟨tP _ _,fun c a=>?_⟩;have hd:=Ă a.vars;simp only[rest,oQ,hd];exact⟨by simp,.inl ⟨id,hb,by rw[b]; rfl⟩⟩
 |itr =>
  simp only[Ģ] at e
  split at e<;>try (cases e; done)
  rename_i id hb
  split at e<;>try (cases e; done)
  rename_i s q b;cases e;refine⟨tP _ _,fun c a=>?_⟩;have hd:=Ă a.vars;simp only[rest,oQ,hd];exact⟨by simp,.inl ⟨id,hb,by rw[b]; rfl⟩⟩
def acF (H:HR ν h w) {p:iy} {i id:Nat} {M M1:Mt} {cs:AS AV} (e:Ģ h p i M=some M1) (hb:ς M.bd i=some (.at_ id)) (a:lkB h id=.cells cs) {c:Mt} (f:Ext M1 c) (F:Fin ν h w c h') {us:AS Value} (d:ò (VRc ν h w) cs us) :
 ∃b,(oQ p (rest c M)).1=.cells b/\ò (VRc (νb c.bd ν) h' w) b us:=by
 cases p with
 |cells ps =>
  simp only[Ģ,hb,a] at e;exact⟨_,rfl,Bi H e c f F d⟩
 |dead=>simp[Ģ,hb,a] at e
 |rowc t=>simp[Ģ,hb,a] at e
 |rowf t g=>simp[Ģ,hb,a] at e
 |rowv t=>simp[Ģ,hb,a] at e
 |mapc k v=>simp[Ģ,hb,a] at e
 |mapv k v=>simp[Ģ,hb,a] at e
 |deepc k=>simp[Ģ,hb,a] at e
 |deepv k=>simp[Ģ,hb,a] at e
 |acc t=>simp[Ģ,hb,a] at e
 |itr=>simp[Ģ,hb,a] at e
 |fns es=>simp[Ģ,hb,a] at e
def Z9 {p:iy} {i id:Nat} {M M1:Mt} {es:AS (ByteArray×AV)} (e:Ģ h p i M=some M1) (hb:ς M.bd i=some (.at_ id)) (a:lkB h id=.fns es) {c:Mt} (f:Ext M1 c) (F:Fin ν h w c h') {ms:AS MapEntry} (d:Q9 ν h w es ms) :
 ∃b,(oQ p (rest c M)).1=.fns b/\Q9 (νb c.bd ν) h' w b ms:=by
 cases p with
 |fns es0 =>
  simp only[Ģ,hb,a] at e;exact⟨_,rfl,(nl es0 es ms M M1 e).2.2.2 c f F d⟩
 |cells ps=>simp[Ģ,hb,a] at e
 |dead=>simp[Ģ,hb,a] at e
 |rowc t=>simp[Ģ,hb,a] at e
 |rowf t g=>simp[Ģ,hb,a] at e
 |rowv t=>simp[Ģ,hb,a] at e
 |mapc k v=>simp[Ģ,hb,a] at e
 |mapv k v=>simp[Ģ,hb,a] at e
 |deepc k=>simp[Ģ,hb,a] at e
 |deepv k=>simp[Ģ,hb,a] at e
 |acc t=>simp[Ģ,hb,a] at e
 |itr=>simp[Ģ,hb,a] at e
def xj (p:iy) (ps:AS iy) (I:It):xY (p::ps) I=((oQ p I).1::(xY ps (oQ p I).2).1,(xY ps (oQ p I).2).2):=rfl
def wn:∀(ps:AS iy) (I:It),(xY ps I).1.length=ps.length
 |[],_=>rfl
 |p::ps,I=>by rw[xj]; simp[wn ps]
def sr:∀{ps:AS iy} {i:Nat} {M M1:Mt},Ft h ps i M=some M1->Ext M M1/\∀a,Ext M1 a->∀k,k<ps.length ->
 (∃id,ς a.bd (i+k)=some (.at_ id)/\kin (lkB h id) (lkB (xY ps (rest a M)).1 k))\/(ς a.bd (i+k)=some .new/\∃t,lkB (xY ps (rest a M)).1 k=.row t 0 false [])\/(ς a.bd (i+k)=some .newd/\∃q,lkB (xY ps (rest a M)).1 k=.deep q 0 [])
 |[],i,M,M1,e=>by cases e; exact⟨Ext.refl _,fun a _ k l=>by simp at l⟩
 |p::ps,i,M,M1,e=>by
  simp only[Ft] at e
  split at e<;>try (cases e; done)
  rename_i s r;obtain⟨j,o⟩:=zS r;obtain⟨f,t2⟩:=sr e;refine⟨j.trans f,fun a d k l=>?_⟩;obtain⟨n,m⟩:=o a (f.trans d);rw[xj,n]
  cases k with
  |zero =>
   rcases m with⟨id,c,b⟩|⟨c,b⟩|⟨c,b⟩
   ·exact .inl ⟨id,(j.trans (f.trans d)).bd _ _ c,b⟩
   ·exact .inr (.inl ⟨(j.trans (f.trans d)).new _ c,b⟩)
   ·exact .inr (.inr ⟨(j.trans (f.trans d)).newd _ c,b⟩)
  |succ k =>
   have:=t2 a d k (by simpa using l);rw[show i+(k+1)=i+1+k by omega];exact this
def SZ (H:HR ν h w):∀{ps:AS iy} {i:Nat} {M M1:Mt},Ft h ps i M=some M1->∀b,Ext M1 b->Fin ν h w b h'->∀k id cs us,k<ps.length->ς b.bd (i+k)=some (.at_ id)->lkB h id=.cells cs->ò (VRc ν h w) cs us ->
 ∃j,lkB (xY ps (rest b M)).1 k=.cells j/\ò (VRc (νb b.bd ν) h' w) j us
 |[],i,M,M1,e,b,_,_,k,_,_,_,l,_,_,_=>by simp at l
 |p::ps,i,M,M1,e,b,d,F,k,id,cs,us,l,hb,q,o=>by
  simp only[Ft] at e
  split at e<;>try (cases e; done)
  rename_i y r;obtain⟨m,v⟩:=zS r;obtain⟨f,t2⟩:=sr e;obtain⟨u,s⟩:=v b (f.trans d);rw[xj,u]
  cases k with
  |zero =>
   rcases s with⟨x,c,n⟩|⟨c,n⟩|⟨c,n⟩
   ·have:=(m.trans (f.trans d)).bd _ _ c;have a:ς b.bd i=some (.at_ id):=hb;rw[this] at a;cases a;exact acF H r c q (f.trans d) F o
   ·have:=(m.trans (f.trans d)).new _ c;have a:ς b.bd i=some (.at_ id):=hb;rw[this] at a;cases a
   ·have:=(m.trans (f.trans d)).newd _ c;have a:ς b.bd i=some (.at_ id):=hb;rw[this] at a;cases a
  |succ k=>exact SZ H e b d F k id cs us (by simpa using l) (by rw[show i+1+k=i+(k+1) by omega]; exact hb) q o
def NF:∀{ps:AS iy} {i:Nat} {M M1:Mt},Ft h ps i M=some M1->∀b,Ext M1 b->Fin ν h w b h'->∀k id es ms,k<ps.length->ς b.bd (i+k)=some (.at_ id)->lkB h id=.fns es->Q9 ν h w es ms ->
 ∃f,lkB (xY ps (rest b M)).1 k=.fns f/\Q9 (νb b.bd ν) h' w f ms
 |[],i,M,M1,e,b,_,_,k,_,_,_,l,_,_,_=>by simp at l
 |p::ps,i,M,M1,e,b,d,F,k,id,es,ms,l,hb,q,o=>by
  simp only[Ft] at e
  split at e<;>try (cases e; done)
  rename_i y r;obtain⟨m,v⟩:=zS r;obtain⟨j,t2⟩:=sr e;obtain⟨u,s⟩:=v b (j.trans d);rw[xj,u]
  cases k with
  |zero =>
   rcases s with⟨x,c,n⟩|⟨c,n⟩|⟨c,n⟩
   ·have:=(m.trans (j.trans d)).bd _ _ c;have a:ς b.bd i=some (.at_ id):=hb;rw[this] at a;cases a;exact Z9 r c q (j.trans d) F o
   ·have:=(m.trans (j.trans d)).new _ c;have a:ς b.bd i=some (.at_ id):=hb;rw[this] at a;cases a
   ·have:=(m.trans (j.trans d)).newd _ c;have a:ς b.bd i=some (.at_ id):=hb;rw[this] at a;cases a
  |succ k=>exact NF e b d F k id es ms (by simpa using l) (by rw[show i+1+k=i+(k+1) by omega]; exact hb) q o
def C0:∀{l:AS Bd} {i id:Nat},ς l i=some (.at_ id)->id∈GV l
 |[],_,_,h=>by cases h
 |x::l,0,id,h=>by
  simp only[ς,Option.some.injEq] at h;subst h; simp[GV]
 |x::l,i+1,id,h=>by
  have:=C0 (l:=l) (i:=i) (id:=id) h
  cases x<;>simp[GV,this]
def FU:∀{l:AS Bd} {i j id:Nat},distinct (GV l)=true->ς l i=some (.at_ id)->ς l j=some (.at_ id)->i=j
 |[],_,_,_,_,h,_=>by cases h
 |x::l,0,0,_,_,_,_=>rfl
 |x::l,0,j+1,id,hd,a,h2=>by
  simp only[ς,Option.some.injEq] at a;subst a;simp only[GV,distinct,cM] at hd;have:=C0 (l:=l) (i:=j) (id:=id) h2;simp[this] at hd
 |x::l,i+1,0,id,hd,a,h2=>by
  simp only[ς,Option.some.injEq] at h2;subst h2;simp only[GV,distinct,cM] at hd;have:=C0 (l:=l) (i:=i) (id:=id) a;simp[this] at hd
 |x::l,i+1,j+1,id,hd,a,h2=>by
  have b:distinct (GV l)=true:=by
   cases x<;>simp only[GV,distinct,cM] at hd<;>first|exact hd|exact hd.2
  rw[FU (l:=l) b a h2]
def ZO {pin n i:Nat} (hi:i<pin) (c:pin<=n):ς (zC pin n) i=some (.at_ i):=by
 have a:∀(l:AS Bd) (k:Nat),ς l k=l[k]?:=by
  intro l
  induction l with
  |nil=>intro k; simp[ς]
  |cons x l b=>intro k; cases k with
   |zero=>rfl
   |succ k=>simpa[ς] using b k
 rw[a,zC,gL,gw (by omega)];simp[hi]
def EE:∀{pin:Nat},adu h pin=true->∀i,i<pin->(∀t g xs,lkB h i=.row t g false xs->g=0)/\∀k g xss,lkB h i=.deep k g xss->g=0
 |0,_,i,hi=>by omega
 |pin+1,d,i,hi=>by
  have a:adu h pin=true/\(∀t g xs,lkB h pin=.row t (g+1) false xs->False)/\∀k g xss,lkB h pin=.deep k (g+1) xss->False:=by
   simp only[adu] at d
   split at d<;>try (cases d; done)
   rename_i c b;exact⟨d,fun t g xs e=>c _ _ _ e,fun k g xss e=>b _ _ _ e⟩
  rcases gH.1 hi with j|rfl
  ·exact EE a.1 i j
  ·refine⟨fun t g xs f=>?_,fun k g xss f=>?_⟩
   ·cases g with
    |zero=>rfl
    |succ g=>exact(a.2.1 _ _ _ f).elim
   ·cases g with
    |zero=>rfl
    |succ g=>exact(a.2.2 _ _ _ f).elim
def J6:∀(l:AS AV) (n k:Nat),lk (l++List.replicate n .any) k=lk l k
 |[],0,_=>rfl
 |[],n+1,0=>rfl
 |[],n+1,k+1=>by simpa[List.replicate_succ,afl,afm,afk] using J6 [] n k
 |x::l,n,0=>rfl
 |x::l,n,k+1=>by simpa[afl,afm,afk] using J6 l n k
def FR:∀(ps:AS Pat) (I:It),(EC ps I).1.length=ps.length
 |[],_=>rfl
 |p::ps,I=>by rw[rO]; simp[FR ps]
def sq:afa:=by
 intro T pin cs vs S p v ν a w e H;unfold pn at e
 split at e<;>try (cases e; done)
 rename_i hc;simp only[cM,decide_eq_true_eq] at hc;obtain⟨c1,c2,c3,c4⟩:=hc
 split at e<;>try (cases e; done)
 rename_i R hL
 split at e<;>try (cases e; done)
 rename_i M hH
 split at e<;>try (cases e; done)
 rename_i hd;simp only[cM,dw] at hd;obtain⟨d1,d2⟩:=hd
 split at e<;>try (cases e; done)
 rename_i p' v' hp hv;cases e;have ep:VV cs p=M.cons:=XF cs _ _ hp;have ev:VV vs v=M.vars:=XF vs _ _ hv;obtain⟨eL,tL⟩:=zR hL;obtain⟨eH,tH⟩:=sr hH
 -- the state of the pattern
 have hI0:({cons:=VV cs p,vars:=VV vs v}:It)=rest M {bd:=zC pin T.heap.length,cons:=[],vars:=[],freed:=[]}:=by
  simp[rest,ep,ev]
 have N:ą T cs vs p v={t:=(EC T.slots (rest M {bd:=zC pin T.heap.length,cons:=[],vars:=[],freed:=[]})).1++List.replicate (T.n-T.slots.length) .any,h:=(xY T.heap (rest M R)).1}:=by
  unfold ą;rw[hI0];have:=tL M eH;show(St.mk _ _)=_;rw[show(EC T.slots (rest M {bd:=zC pin T.heap.length,cons:=[],vars:=[],freed:=[]})).2=rest M R from this]
 rw[N]
 have y:M.bd.length=T.heap.length:=by rw[eH.len,eL.len]; simp[zC]
 have J:(xY T.heap (rest M R)).1.length=T.heap.length:=wn _ _
 have F:Fin ν S.h w M (xY T.heap (rest M R)).1:=by
  refine⟨fun i id hb=>?_,fun i hb=>?_,fun i hb=>?_,fun i h1 h2 h3=>?_,fun id hid i hb=>?_,fun i j id=>FU d1⟩
  ·have hi:i<T.heap.length:=by rw[<-y]; exact tf hb
   rcases tH M (Ext.refl _) i hi with⟨G,d,l⟩|⟨d,_⟩|⟨d,_⟩
   ·rw[dt,hb] at d; cases d; exact l
   ·rw[dt,hb] at d; cases d
   ·rw[dt,hb] at d; cases d
  ·have hi:i<T.heap.length:=by rw[<-y]; exact tf hb
   rcases tH M (Ext.refl _) i hi with⟨G,d,l⟩|⟨d,l⟩|⟨d,l⟩
   ·rw[dt,hb] at d; cases d
   ·exact l
   ·rw[dt,hb] at d; cases d
  ·have hi:i<T.heap.length:=by rw[<-y]; exact tf hb
   rcases tH M (Ext.refl _) i hi with⟨G,d,l⟩|⟨d,l⟩|⟨d,l⟩
   ·rw[dt,hb] at d; cases d
   ·rw[dt,hb] at d; cases d
   ·exact l
  ·rcases dC i T.heap.length with hi|hi
   ·rcases tH M (Ext.refl _) i hi with⟨G,d,l⟩|⟨d,l⟩|⟨d,l⟩
    ·rw[dt] at d; exact absurd d (h1 G)
    ·rw[dt] at d; exact absurd d h2
    ·rw[dt] at d; exact absurd d h3
   ·exact FP _ _ (by rw[J]; exact hi)
  ·have:=d2 id hid;have hm:=C0 hb;simp[hm] at this
 have hHR:HR (νb M.bd ν) (xY T.heap (rest M R)).1 w:=by
  refine⟨fun i=>?_,fun i j b hi hj A hbj=>?_,H.heap.ghlt,fun i b z hb hg=>?_,H.heap.glob,fun b hb hL=>H.heap.globL b hb (F.subL b hL)⟩
  rotate_left 2
  ·obtain⟨id,d,l⟩:=F.subL b ⟨i,z,hb⟩;exact H.heap.ghne id b d l hg
  ·cases hb:ς M.bd i with
   |none=>rw[F.out i (by simp[hb]) (by simp[hb]) (by simp[hb])]; trivial
   |some x =>
    cases x with
    |open_=>rw[F.out i (by simp[hb]) (by simp[hb]) (by simp[hb])]; trivial
    |newd =>
     obtain⟨k,f⟩:=F.newd i hb;rw[f];exact⟨none,0,[],Xv hb,cJ _,fY _ _,.inl ⟨rfl,rfl⟩,trivial⟩
    |new =>
     obtain⟨t,ht⟩:=F.new i hb;rw[ht];exact⟨none,0,abD hb,cJ _,.inl ⟨rfl,rfl⟩⟩
    |at_ id =>
     have f:=F.at_ i id hb;have B:=H.heap.blk id
     cases z:lkB S.h id with
     |dead=>rw[z] at f; rw[show lkB _ i=_ from f]; trivial
     |cells c =>
      rw[z] at B;obtain⟨b,Z,e',d,l,E⟩:=B
      have hi:i<T.heap.length:=by rw[<-y]; exact tf hb
      obtain⟨cs',I,K⟩:=SZ H.heap hH M (Ext.refl _) F i id c Z.toList hi (by rw[dt]; exact hb) z E;rw[I];exact⟨b,Z,e',(ip hb).trans d,l,K⟩
     |row t g fz xs =>
      rw[z] at f B
      cases fz with
      |true =>
       rw[show lkB _ i=_ from f];show CR w _ (.fsl t) xs [_];rw[ip hb];exact CR.mono F.sub B
      |false =>
       rw[show lkB _ i=_ from f];obtain⟨base,cap,d,l,E⟩:=B;refine⟨base,cap,(ip hb).trans d,l,?_⟩;rcases E with E|⟨b,off,c,e',I,K,U,q7⟩
       ·exact .inl E
       ·refine .inr ⟨b,off,c,e',I,K,U,fun j x V=>?_⟩;obtain⟨us,q8,q9⟩:=q7 j x V;exact⟨us,CR.mono F.sub q8,q9⟩
     |map k u es =>
      rw[z] at f B;rw[show lkB _ i=_ from f];obtain⟨b,r,C,d,l,E,I⟩:=B;refine⟨b,r,C,(ip hb).trans d,l,E,fun j x V=>?_⟩;obtain⟨m,us,K,U,q7,q8⟩:=I j x V;exact⟨m,us,K,CR.mono F.sub U,CR.mono F.sub q7,q8⟩
     |fns es =>
      rw[z] at B;obtain⟨b,r,C,d,l,E⟩:=B
      have hi:i<T.heap.length:=by rw[<-y]; exact tf hb
      obtain⟨es',I,K⟩:=NF hH M (Ext.refl _) F i id es r.toList hi (by rw[dt]; exact hb) z E;rw[I];exact⟨b,r,C,(ip hb).trans d,l,K⟩
     |iter s q =>
      rw[z] at f B;rw[show lkB _ i=_ from f];obtain⟨b,d,l⟩:=B;exact⟨b,(ip hb).trans d,l⟩
     |deep k g xss =>
      rw[z] at f B;rw[show lkB _ i=_ from f];obtain⟨base,cap,us,d,l⟩:=B;exact⟨base,cap,us,(ip hb).trans d,l⟩
     |acc t xs =>
      rw[z] at f B;rw[show lkB _ i=_ from f];obtain⟨us,d,l,E,I⟩:=B;refine⟨us,(ip hb).trans d,by rw[ip hb]; exact l,E,?_⟩;rw[ip hb];exact Ð.st _ _ _ _ _ _ I ⟨rfl,rfl,rfl,cJ _,fun b _ hn V=>hn (F.sub b V),fun b o ho _ _=>ho,fun b o ho _ _=>ho,fun _ _ _=>rfl⟩
  ·have Y:∀i,(lkB (xY T.heap (rest M R)).1 i).live=true->ę (νb M.bd ν i) b->∃id,ς M.bd i=some (.at_ id)/\(lkB S.h id).live=true/\ę (ν id) b:=fun i hi A=>by
    cases hb:ς M.bd i with
    |none=>rw[F.out i (by simp[hb]) (by simp[hb]) (by simp[hb])] at hi; cases hi
    |some x =>
     cases x with
     |open_=>rw[F.out i (by simp[hb]) (by simp[hb]) (by simp[hb])] at hi; cases hi
     |new=>simp only[νb,hb] at A; cases A
     |newd =>
      simp only[νb,hb] at A;obtain⟨u,hu,A⟩:=A;simp at hu;subst hu;cases A
     |at_ id =>
      refine⟨id,rfl,?_,by simpa[νb,hb] using A⟩;have f:=F.at_ i id hb
      cases W:lkB S.h id with
      |dead=>rw[W] at f; rw[show lkB _ i=_ from f] at hi; cases hi
      |cells=>rfl
      |map=>rfl
      |deep=>rfl
      |acc=>rfl
      |fns=>rfl
      |iter=>rfl
      |row t g fz xs =>
       cases fz with
       |false=>rfl
       |true=>rw[W] at f; rw[show lkB _ i=_ from f] at hi; cases hi
   obtain⟨id,d,l,E⟩:=Y i hi A;obtain⟨G,I,K,U⟩:=Y j hj hbj;have:=H.heap.inj id G b l K E U;subst this;exact F.inj i j id d I
 have L:∀i,i<pin->ς M.bd i=some (.at_ i):=fun i hi=>(eL.trans eH).bd i i (ZO hi c1);refine⟨νb M.bd ν,⟨H.defers,?_,fun i=>?_,hHR⟩,⟨rfl,rfl,rfl,cJ _,fun b _ hb=>⟨rfl,fun hb'=>hb (F.subL b hb')⟩,fun i hi=>?_⟩,by rw[J]; exact c1,fun i hi O=>?_⟩
 ·have:=H.len;simp only[cN,fQ,FR];omega
 ·simp only[J6];exact SY H.heap hL M eH F (fun k=>a.tmps.getD k undef) (fun k=>H.tmps k) i
 ·have hb:=L i hi;have f:=F.at_ i i hb
  cases z:lkB S.h i with
  |dead=>trivial
  |cells c=>rw[z] at f; exact⟨f,ip hb⟩
  |row t g fz xs =>
   rw[z] at f
   cases fz with
   |true=>exact⟨g,true,xs,f,cJ _,fun _=>⟨ip hb,rfl⟩⟩
   |false =>
    have hg:=(EE c4 i hi).1 t g xs z;exact⟨0,false,xs,f,by omega,fun _=>⟨ip hb,rfl⟩⟩
  |map k u es=>rw[z] at f; exact⟨⟨es,f⟩,ip hb⟩
  |deep k g xss =>
   rw[z] at f;have hg:=(EE c4 i hi).2 k g xss z;exact⟨0,xss,f,by omega,fun _=>⟨ip hb,rfl⟩⟩
  |acc t xs=>rw[z] at f; exact⟨xs,f⟩
  |fns es=>rw[z] at f; exact⟨f,ip hb⟩
  |iter s q=>rw[z] at f; exact⟨⟨q,f⟩,ip hb⟩
 ·have f:=F.at_ i i (L i hi);rw[O] at f;exact f
end
end Go.Am
end

noncomputable section
namespace Go.Am
variable [ë] [Ð]
section
variable {ρ:Type} {ν ν':Nat->Value} {h h':AS Blk} {w w':World} {P:Program}
def kd (w:World) (G:Nat->Prop) (t:Ty) (x:Val t) (v:Value):Prop:=∃us,CR w G t x us/\v=uC t us
def AT (w:World) (G:Nat->Prop):(l:AS Ty)->(t:Ty)->Val (tys t l)->AS Value->Prop
 |[],t,x,vs=>∃v,vs=[v]/\kd w G t x v
 |u::l,t,x,vs=>∃v a,vs=v::a/\kd w G t (x:Val t×Val (tys u l)).1 v/\AT w G l u (x:Val t×Val (tys u l)).2 a
def AL (w:World) (G:Nat->Prop):(l:AS Ty)->Val (tyL l)->AS Value->Prop
 |[],_,vs=>vs=[]
 |t::l,x,vs=>AT w G l t x vs
def RR (w:World) (G:Nat->Prop):(l:AS Ty)->Val (tyL l)->Value->Prop
 |[],_,u=>u=.tuple #[]
 |[t],x,u=>kd w G t x u
 |t::u'::l,x,u=>∃vs,u=.tuple vs/\AT w G (u'::l) t x vs.toList
def Ξ (P:Program) (f:Nat) (p:ï):Prop :=
 ∀(G:Nat->Prop) (x:Val (tyL p.ts)) (y:Val (tyL p.rs)),p.F x=some y->∀(w:World) (vals:AS Value),(∀b,G b\/ë.E b->b<w.heap.size)->ë.Φ w->AL w G p.ts x vals ->
  (∃fn c,P.funcs[f]?=some fn/\fn.body=some c) /\
  CallsIn Fence.wide 0 P f vals.toArray w fun e w'=>∃u,e=.returned u/\RR w' G p.rs y u/\(∀b,b<w.heap.size->w'.heap[b]?=w.heap[b]?)/\w.heap.size<=w'.heap.size/\w'.os=w.os/\w'.tape=w.tape/\w'.output=w.output
def QJ {a:AV} {vs:AS AV} (e:ģ a=some vs):kO a=vs:=by
 cases a<;>simp only[ģ,Option.some.injEq,reduceCtorEq] at e<;>exact e
def wN {G:Nat->Prop} {t:Ty} {x:Val t} {a:AV} {v:Value} {vs:AS AV} (d:(Kh a==t.isAgg)=true) (i:ģ a=some vs) (j:VR ν h w a v)
 (q:∀c∈kO a,∀u,VR1 ν h w c u->VRs w G (ñ h c) u) (e:Ù t (vs.map (ñ h))=some x):kd w G t x v:=by
 have f:=j.cells i;have h2:ò (VRs w G) (vs.map (ñ h)) v.cells.toList:=ò.map_left (aux vs _ f fun c n u k=>q c (by rw[QJ i]; exact n) u k.1);refine⟨_,Ĝ e h2,?_⟩
 cases ha:a.isAgg with
 |true =>
  cases a<;>try cases ha
  obtain⟨us,rfl,_⟩:=j
  have:t.isAgg=true:=by simpa[Kh] using d
  simp[uC,this,Value.cells]
 |false =>
  have r:Kh a=false:=by cases a<;>first|rfl|cases ha
  have m:t.isAgg=false:=by rw[r] at d; simpa using d
  have l:a.isTup=false:=by cases a<;>first|rfl|cases i
  have s:=(j.one ha l).oneCell i;simp[uC,m,oY s]
where
 aux {w:World} {G:Nat->Prop} {ν:Nat->Value} {h:AS Blk} (vs:AS AV) (us:AS Value) (f:ò (VRc ν h w) vs us) (o:∀c∈vs,∀u,VRc ν h w c u->VRs w G (ñ h c) u):ò (fun c b=>VRs w G (ñ h c) b) vs us:=by
  induction vs generalizing us with
  |nil=>cases us with
   |nil=>trivial
   |cons=>exact f.elim
  |cons c vs p=>cases us with
   |nil=>exact f.elim
   |cons u us=>exact⟨o c (by simp) u f.1,p us f.2 fun c n u k=>o c (by simp[n]) u k⟩
def Q0 (H:HR ν h w) {G:Nat->Prop} {t:Ty} {x:Val t} {a:AV} {v:Value} (n:VR ν h w a v)
 (K:∀c∈kO a,∀u,VR1 ν h w c u->VRs w G (ñ h c) u) (hb:∀id cs,a=.box id 0->lkB h id=.cells cs->(∀b,ę (ν id) b->¬G b)/\∀c∈cs,∀u,VR1 ν h w c u->VRs w G (ñ h c) u) (hd:∀id g,a=.dp id g->(lkB h id).live=true->∀b,ę (ν id) b->¬G b) (e:afo h t a=some x):kd w G t x v:=by
 cases A:(match t with|.ptr _=>true|_=>false) with
 |false =>
  by_cases m:∃id g,a=.dp id g
  ·obtain⟨id,g,rfl⟩:=m
   have d:(match lkB h id with
    |.deep k g' xss=>match g==g' with
     |true=>match decEq (Ty.slice (.slice (.int k))) t with
      |isTrue e=>some (qB (F:=Val) e xss)
      |isFalse _=>none
     |false=>none
    |_=>none)=some x:=by
    cases t<;>first|exact e|cases A
   split at d<;>try (cases d; done)
   rename_i k g' xss j
   split at d<;>try (cases d; done)
   rename_i S
   split at d<;>try (cases d; done)
   rename_i z _;subst z;cases d;obtain⟨Z,Y,g2,J,l,_,O⟩:=n;rw[j] at l; cases l;have i:=Rt H j (O (by simpa using S)) (hd id g rfl (by rw[j]; rfl));exact⟨[v],i,rfl⟩
  have d:(match Kh a==t.isAgg with|true=>(match ģ (XJ h a) with|some cs=>Ù t cs|none=>none)|false=>none)=some x:=by
   have R:∀id g,a≠.dp id g:=fun id g q=>m ⟨id,g,q⟩
   cases t<;>first|(cases A; done)|(cases a<;>first|exact e|exact absurd rfl (R _ _))
  split at d<;>try (cases d; done)
  rename_i C
  split at d<;>try (cases d; done)
  rename_i cs f;obtain⟨vs,s,rfl⟩:=DU f;exact wN C s n K d
 |true =>
  cases t<;>try cases A
  rename_i u;simp only[afo] at e
  split at e<;>try (cases e; done)
  ·rename_i id
   split at e<;>try (cases e; done)
   rename_i cs j;obtain⟨V,b,s,h2,I⟩:=n.one rfl rfl;have L:=H.blk id;rw[j] at L;obtain⟨b',c,d,r,p,E⟩:=L;rw[h2] at r; cases r;obtain⟨U,f⟩:=hb id cs rfl j;have i:CR w G u x c.toList:=Ĝ e (ò.map_left (wN.aux cs _ E fun c T u N=>f c T u N.1));refine⟨[v],⟨b,0,c.toList,by rw[I],U b (by rw[h2]; rfl),à p,i,Ď.of_cells p⟩,rfl⟩
  ·rename_i W y
   split at e<;>try (cases e; done)
   rename_i B _;subst B;cases e;have s:=K _ (by simp[kO]) v (n.one rfl rfl);obtain⟨b,o,us,h2,I,r,p,E⟩:=s;exact⟨[v],⟨b,o,us,by rw[h2]; rfl,I,r,p,E⟩,rfl⟩
def Lj (H:HR ν h w) {G:Nat->Prop}:∀(l:AS Ty) (t:Ty) (x:Val (tys t l)) (as:AS AV) (vs:AS Value),ò (VR ν h w) as vs ->
 (∀a∈as,∀c∈kO a,∀u,VR1 ν h w c u->VRs w G (ñ h c) u)->(∀a∈as,∀id cs,a=.box id 0->lkB h id=.cells cs->(∀b,ę (ν id) b->¬G b)/\∀c∈cs,∀u,VR1 ν h w c u->VRs w G (ñ h c) u)->(∀a∈as,∀id g,a=.dp id g->(lkB h id).live=true->∀b,ę (ν id) b->¬G b)->QZ h l t as=some x->AT w G l t x vs
 |[],t,x,[],vs,_,_,_,_,e=>by cases e
 |[],t,x,[a],vs,d,f,hb,hd,e=>by
  obtain⟨v,rfl,k⟩:=d.one;exact⟨v,rfl,Q0 H k (f a (by simp)) (hb a (by simp)) (hd a (by simp)) e⟩
 |[],t,x,_::_::_,vs,_,_,_,_,e=>by cases e
 |u::l,t,x,[],vs,_,_,_,_,e=>by cases e
 |u::l,t,x,a::as,[],d,_,_,_,e=>d.elim
 |u::l,t,x,a::as,v::vs,d,f,hb,hd,e=>by
  simp only[QZ] at e
  split at e<;>try (cases e; done)
  rename_i y j
  split at e<;>try (cases e; done)
  rename_i z i;cases e;exact⟨v,vs,rfl,Q0 H d.1 (f a (by simp)) (hb a (by simp)) (hd a (by simp)) j,Lj H l u z as vs d.2 (fun a ha=>f a (by simp[ha])) (fun a ha=>hb a (by simp[ha])) (fun a ha=>hd a (by simp[ha])) i⟩
def Ll (H:HR ν h w) {G:Nat->Prop} {l:AS Ty} {x:Val (tyL l)} {as:AS AV} {vs:AS Value} (d:ò (VR ν h w) as vs)
 (f:∀a∈as,∀c∈kO a,∀u,VR1 ν h w c u->VRs w G (ñ h c) u) (hb:∀a∈as,∀id cs,a=.box id 0->lkB h id=.cells cs->(∀b,ę (ν id) b->¬G b)/\∀c∈cs,∀u,VR1 ν h w c u->VRs w G (ñ h c) u) (hd:∀a∈as,∀id g,a=.dp id g->(lkB h id).live=true->∀b,ę (ν id) b->¬G b) (e:DG h l as=some x):AL w G l x vs:=by
 cases l with
 |nil=>cases as with
  |nil=>exact d.nil_left
  |cons=>cases e
 |cons t l=>exact Lj H l t x as vs d f hb hd e
def kd.mono {G G':Nat->Prop} (c:∀b,G' b->G b) {t:Ty} {x:Val t} {v:Value} (a:kd w G t x v):kd w G' t x v:=by
 obtain⟨us,d,h2⟩:=a;exact⟨us,CR.mono c d,h2⟩
def EG {av av':Nat->Prop}:∀{t:Ty} {x:Val t} {us:AS Value},(flat t x).all uY=true->CR w av t x us->CR w av' t x us
 |.unit,_,_,_,d=>d
 |.bool,_,_,_,d=>d
 |.int _,_,_,_,d=>d
 |.str,_,_,_,d=>d
 |.slice _,_,_,c,_=>by simp[flat,uY] at c
 |.fsl _,_,_,c,_=>by simp[flat,uY] at c
 |.map _ _,_,_,c,_=>by simp[flat,uY] at c
 |.ptr _,_,_,c,_=>by simp[flat,uY] at c
 |.pair a b,x,us,c,d=>by
  simp only[flat,List.all_append,cM] at c;obtain⟨u1,f,e,i,h2⟩:=d;exact⟨u1,f,e,EG c.1 i,EG c.2 h2⟩
def adM {t:Ty} {x:Val t} (a:plain (enc t x)=true):(flat t x).all uY=true:=by
 cases t<;>first|exact a|(simp only[enc,plain,uY] at a; simp[flat,uY])|(simp[enc,plain,uY] at a)
def kd.plain {G G':Nat->Prop} {t:Ty} {x:Val t} {v:Value} (b:plain (enc t x)=true) (a:kd w G t x v):kd w G' t x v:=by
 obtain⟨us,c,h2⟩:=a;exact⟨us,EG (adM b) c,h2⟩
def AT.plain {G G':Nat->Prop}:∀{l:AS Ty} {t:Ty} {x:Val (tys t l)} {vs:AS Value},(adN l t x).all Go.Am.plain=true->AT w G l t x vs->AT w G' l t x vs
 |[],t,x,vs,a,⟨v,b,h2⟩=>⟨v,b,h2.plain (by simpa[adN] using a)⟩
 |u::l,t,x,vs,a,⟨v,vs',b,h2,c⟩=>by
  simp only[adN,eQ,cM] at a;exact⟨v,vs',b,h2.plain a.1,AT.plain a.2 c⟩
def RW {v:AV} (a:v.isTup=false):HS v=Go.Am.plain v:=by cases v<;>first|rfl|cases a
def EP {t:Ty} {x:Val t}:(enc t x).isTup=false:=by cases t<;>rfl
def RR.plain {G G':Nat->Prop}:∀{l:AS Ty} {x:Val (tyL l)} {u:Value},HS (Vt l x)=true->RR w G l x u->RR w G' l x u
 |[],_,_,_,h=>h
 |[t],x,u,a,h=>kd.plain ((RW (EP (t:=t) (x:=x))).symm.trans a) h
 |t::u'::l,x,u,a,⟨vs,b,h2⟩=>⟨vs,b,h2.plain a⟩
def kd.VR {t:Ty} {x:Val t} {v:Value} (a:kd w (Av ν h) t x v):VR ν h w (enc t x) v:=by
 obtain⟨us,b,rfl⟩:=a;exact Dl b
def AT.VR:∀{l:AS Ty} {t:Ty} {x:Val (tys t l)} {vs:AS Value},AT w (Av ν h) l t x vs->ò (VR ν h w) (adN l t x) vs
 |[],t,x,_,⟨v,rfl,h2⟩=>⟨h2.VR,trivial⟩
 |u::l,t,x,_,⟨v,vs',rfl,h2,a⟩=>⟨h2.VR,AT.VR a⟩
def KP:∀{l:AS Ty} {t:Ty} {x:Val (tys t l)},∀a∈adN l t x,a.isTup=false
 |[],t,x,a,b=>by simp only[adN,cX] at b; rw[b]; exact EP
 |u::l,t,x,a,b=>by
  simp only[adN,cW] at b;rcases b with rfl|b
  ·exact EP
  ·exact KP a b
def ò.VR2:∀{as:AS AV} {vs:AS Value},ò (VR ν h w) as vs->(∀a∈as,a.isTup=false)->ò (VR2 ν h w) as vs
 |[],[],_,_=>trivial
 |a::as,v::vs,b,c=>⟨by rw[<-sa (c a (by simp))]; exact b.1,ò.VR2 b.2 fun a ha=>c a (by simp[ha])⟩
 |[],_::_,b,_=>b.elim
 |_::_,[],b,_=>b.elim
def RR.VR:∀{l:AS Ty} {x:Val (tyL l)} {u:Value},RR w (Av ν h) l x u->VR ν h w (Vt l x) u
 |[],_,_,h=>by cases h; exact⟨#[],rfl,trivial⟩
 |[t],x,u,h=>kd.VR h
 |t::u'::l,x,u,⟨vs,a,h2⟩=>⟨vs,a,ò.VR2 h2.VR KP⟩
def DP (P:Program) (g:Nat) (ν:Nat->Value) (h:AS Blk) (w:World) (vals:AS Value) (K:AV->AS Blk->AN ρ) (r:ρ):Prop :=
 (∃fn c,P.funcs[g]?=some fn/\fn.body=some c) /\
 CallsIn Fence.wide 0 P g vals.toArray w fun e w'=>∃ν' h' v u,e=.returned u/\VR ν' h' w' v u/\HR ν' h' w'/\Ev h.length ν h w ν' h' w'/\h.length<=h'.length/\(∀j,j<h.length->lkB h j=.dead->lkB h' j=.dead)/\K v h'=some r
def YS {c:AV} {u:Value}:∀{as:AS AV} {h:AS Blk},HR ν h w->c∈as->Ig c=true->VR1 ν h w c u->VRs w (Av ν (xZ h as)) (ñ h c) u
 |[],_,_,b,_,_=>by cases b
 |a::as,h,H,b,e,d=>by
  obtain⟨i,f,j⟩:=Ko H a;rcases cW.1 b with rfl|b
  ·exact VRs.mono ((As as f).2.2) (Kn H d e)
  ·have:=YS (as:=as) f b e (d.ev i)
   rwa [DW] at this
def ZW {f:Nat} {p:ï} (V:Ξ P f p) {b:Bool} {args:AS AV} {K:AV->AS Blk->AN ρ} {r:ρ} (e:Pc b p h args K=some r) (H:HR ν h w) {vals:AS Value} (C:ò (VR ν h w) args vals):DP P f ν h w vals K r:=by
 unfold Pc at e
 split at e<;>try (cases e; done)
 rename_i x B;simp only[Ä] at e
 split at e<;>try (cases e; done)
 rename_i y T
 -- the call, with what may not be touched
 have call:∀(G:Nat->Prop),(∀b,G b\/ë.E b->b<w.heap.size)->AL w G p.ts x vals->∀(h':AS Blk),HR ν h' w->Ev h.length ν h w ν h' w->h.length<=h'.length->(∀j,j<h.length->lkB h j=.dead->lkB h' j=.dead) ->
  (∀w' u,RR w' G p.rs y u->RR w' (Av ν h') p.rs y u)->K (Vt p.rs y) h'=some r->DP P f ν h w vals K r:=by
  intro G Y L h' A ev z n F W;obtain⟨Z,h2⟩:=V G x y T w vals Y H.glob L;refine⟨Z,h2.mono fun e w' U=>?_⟩;obtain⟨u,rfl,g1,g2,g3,g4,g5,g6⟩:=U;obtain⟨O,R⟩:=A.grow g2 g3 g4 g5 g6 h.length;exact⟨ν,h',_,u,rfl,(F w' u g1).VR,R,ev.trans O (cJ _),z,n,W⟩
 split at e
 ·rename_i I;exact call Ð.G (fun b hb=>H.ghlt b hb) (Ll H C (fun a _ c _ u m=>M6 H m) (fun _ _ id cs _ z=>⟨fun b hb J=>H.ghG id b (by rw[z]; rfl) hb J,fun c _ u m=>M6 H m⟩) (fun _ _ id g _ z b hb J=>H.ghG id b z hb J) B) h H (Ev.refl _ _ _ _) (cJ _) (fun _ _ hd=>hd) (fun w' u q=>q.plain I) e
 ·split at e
  ·rename_i s
   have d:∀a∈args,Ln a=false:=fun a ha=>by have:=dw.1 s a ha; simpa using this
   refine call (Av ν h) (fun b hb=>hb.elim H.ltA fun N=>H.ghlt b (.inr N)) (Ll H C (fun a ha c l u m=>?_) (fun a ha id cs i _=>?_) (fun a ha id g i=>?_) B) h H (Ev.refl _ _ _ _) (cJ _) (fun _ _ hd=>hd) (fun w' u q=>q) e
   ·have o:Q4 c=false:=by
     have:=d a ha
     cases a<;>first
      |(simp only[kO,cX] at l; subst l; exact this)
      |(simp only[kO] at l; simp only[Ln,eE] at this; simpa using this c l)
    have:ñ h c=c:=by cases c<;>first|rfl|cases o
    rw[this]; exact m.data
   ·subst i; cases d _ ha
   ·subst i; cases d _ ha
  ·split at e<;>try (cases e; done)
   rename_i v;simp only[gk,fc] at v;have k:∀a∈args,acy a=true:=dw.1 v.2;obtain⟨ev,A,S⟩:=As (args.flatMap kO) H;refine call (Av ν (xZ h (args.flatMap kO))) (fun b hb=>hb.elim A.ltA fun N=>A.ghlt b (.inr N)) (Ll H C (fun a ha c l u m=>?_) (fun a ha id cs i _=>?_) (fun a ha id g i=>?_) B) _ A ev (by rw[ŵ]; exact cJ _) (fun _ _ hd=>Kl _ hd) (fun w' u q=>q) e
   ·refine YS H (dN.2 ⟨a,ha,l⟩) ?_ m;have:=k a ha
    have o:acx c=true:=by
     cases a<;>first
      |(simp only[kO,cX] at l; subst l; exact this)
      |(simp only[kO] at l; simp only[acy,dw] at this; exact this c l)
    cases c<;>first|rfl|cases o
   ·subst i; cases k _ ha
   ·subst i; cases k _ ha
end
end Go.Am
end

noncomputable section
namespace Go.Am
section
variable [ë] {w w':World} {X X':Nat->Prop}
structure ahn (w:World) (X:Nat->Prop) (w':World) (X':Nat->Prop):Prop where
 size:w.heap.size<=w'.heap.size
 av:∀b,b<w.heap.size->¬X b->¬X' b
 dat:∀(b:Nat) (o:Obj),w.heap[b]?=some o->Ie o=true->¬X b->w'.heap[b]?=some o
def agS {w:World} {a:Addr} {v:Value} (h:w.cell? a=some v):∃o,w.heap[a.block]?=some o/\Ie o=true/\∀w':World,w'.heap[a.block]?=some o->w'.cell? a=some v:=by
 unfold World.cell? at h
 split at h<;>try (cases h; done)
 rename_i c e r hb;exact⟨_,hb,rfl,fun w' h'=>by unfold World.cell?; rw[h']; exact h⟩
def Ď.kx (K:ahn w X w' X') {b off:Nat} {vs:AS Value} (hb:¬X b) (h:Ď w b off vs):Ď w' b off vs:=fun j v a=>by
 obtain⟨o,d,h2,c⟩:=agS (h j v a);exact c w' (K.dat b o d h2 hb)
def CR.kx (K:ahn w X w' X'):∀{t:Ty} {x:Val t} {vs:AS Value},CR w X t x vs->CR w' X' t x vs
 |.unit,_,_,h=>h
 |.bool,_,_,h=>h
 |.int _,_,_,h=>h
 |.str,_,_,h=>h
 |.slice t,xs,vs,h=>by
  obtain⟨base,cap,e,o,h⟩:=h;refine⟨base,cap,e,o,?_⟩;rcases h with h|⟨b,off,hb,d,f,h⟩
  ·exact .inl h
  ·refine .inr ⟨b,off,hb,K.av b f d,df f K.size,fun i x l=>?_⟩;obtain⟨us,j,h2⟩:=h i x l;exact⟨us,CR.kx K j,h2.kx K d⟩
 |.map k v,es,vs,h=>by
  obtain⟨r,e,h⟩:=h;refine⟨r,e,?_⟩;rcases h with h|⟨b,entries,clock,u,d,n,s,h⟩
  ·exact .inl h
  ·refine .inr ⟨b,entries,clock,u,K.av b (à n) d,K.dat b _ n rfl d,s,fun i x l=>?_⟩;obtain⟨m,us,j,h2,A,z⟩:=h i x l;exact⟨m,us,j,CR.kx K h2,CR.kx K A,z⟩
 |.ptr t,x,vs,h=>by
  obtain⟨b,off,us,e,d,f,j,h2⟩:=h;exact⟨b,off,us,e,K.av b f d,df f K.size,CR.kx K j,h2.kx K d⟩
 |.pair a b,x,vs,h=>by
  obtain⟨us,p,e,j,h2⟩:=h;exact⟨us,p,e,CR.kx K j,CR.kx K h2⟩
 |.fsl t,xs,vs,h=>by
  obtain⟨base,cap,e,o,h⟩:=h;refine⟨base,cap,e,o,?_⟩;rcases h with h|⟨b,off,c,B,hb,d,y,n,q,h⟩
  ·exact .inl h
  ·refine .inr ⟨b,off,c,B,hb,K.av b (à n) d,y,K.dat b _ n rfl d,q,fun i x l=>?_⟩;obtain⟨us,j,h2⟩:=h i x l;exact⟨us,CR.kx K j,h2.kx K d⟩
end
section
variable [ë] {g:Ð} {G':Nat->Prop} {D:AS Deferred} {Q:AN Nat} {M:Nat} {ν:Nat->Value} {h:AS Blk} {w w':World}
structure jR (g:Ð) (ν:Nat->Value) (h:AS Blk) (w:World) (G':Nat->Prop) (w':World):Prop where
 os:w'.os=w.os
 tape:w'.tape=w.tape
 output:w'.output=w.output
 size:w.heap.size<=w'.heap.size
 av:∀b,b<w.heap.size->¬@Av _ g ν h b->¬G' b
 dat:∀(b:Nat) (o:Obj),w.heap[b]?=some o->Ie o=true->(@Av _ g ν h b->uM ν h b)->w'.heap[b]?=some o
 nd:∀(b:Nat) (o:Obj),w.heap[b]?=some o->Ie o=false->b<g.B->w'.heap[b]?=some o
 gl:ë.Φ w->∀b,b<ë.n->w'.heap[b]?=w.heap[b]?
def jR.kx (K:jR g ν h w G' w'):ahn w (@Av _ g ν h) w' (@Av _ (g.re G' D Q M) ν h) :=
 ⟨K.size,fun b hb a c=>c.elim (fun e=>a (.inl e)) (K.av b hb a),fun b o hb d a=>K.dat b o hb d fun c=>absurd c a⟩
def VR0.step (K:jR g ν h w G' w') {a:AV} {v:Value} (c:@VR0 _ g ν h w a v):@VR0 _ (g.re G' D Q M) ν h w' a v:=by
 cases a with
 |slc t xs=>exact CR.kx (jR.kx (D:=D) (Q:=Q) (M:=M) K) (t:=.slice t) c
 |fsc t xs=>exact CR.kx (jR.kx (D:=D) (Q:=Q) (M:=M) K) (t:=.fsl t) c
 |mp k t es=>exact CR.kx (jR.kx (D:=D) (Q:=Q) (M:=M) K) (t:=.map k t) c
 |eptr t x off =>
  obtain⟨b,o,us,j,h2,e,i,f⟩:=c;have d:=jR.kx (D:=D) (Q:=Q) (M:=M) K;exact⟨b,o,us,j,d.av b e h2,df e K.size,CR.kx d i,f.kx d h2⟩
 |_=>exact c
def VR1.step (K:jR g ν h w G' w') {a:AV} {v:Value} (b:@VR1 _ g ν h w a v):@VR1 _ (g.re G' D Q M) ν h w' a v:=by
 cases c:a.isFn with
 |true =>
  cases a<;>try cases c
  obtain⟨fs,cs,e,h2,d⟩:=b;exact⟨fs,cs,e,h2.mono fun _ _=>VR0.step K,d.mono fun _ _=>VR0.step K⟩
 |false =>
  rw[@sc _ (g.re G' D Q M) _ _ _ _ _ c];rw[@sc _ g _ _ _ _ _ c] at b;exact VR0.step K b
def VRc.step (K:jR g ν h w G' w') {a:AV} {v:Value} (b:@VRc _ g ν h w a v):@VRc _ (g.re G' D Q M) ν h w' a v:=⟨VR1.step K b.1,b.2⟩
def VR2.step (K:jR g ν h w G' w') {a:AV} {v:Value} (b:@VR2 _ g ν h w a v):@VR2 _ (g.re G' D Q M) ν h w' a v:=by
 cases c:a.isAgg with
 |true =>
  cases a<;>try cases c
  obtain⟨vs,d,h2⟩:=b;exact⟨vs,d,h2.mono fun _ _=>VRc.step K⟩
 |false =>
  rw[@uB _ (g.re G' D Q M) _ _ _ _ _ c];rw[@uB _ g _ _ _ _ _ c] at b;exact VR1.step K b
def VR.step (K:jR g ν h w G' w') {a:AV} {v:Value} (b:@VR _ g ν h w a v):@VR _ (g.re G' D Q M) ν h w' a v:=by
 cases c:a.isTup with
 |true =>
  cases a<;>try cases c
  obtain⟨vs,d,h2⟩:=b;exact⟨vs,d,h2.mono fun _ _=>VR2.step K⟩
 |false =>
  rw[@sa _ (g.re G' D Q M) _ _ _ _ _ c];rw[@sa _ g _ _ _ _ _ c] at b;exact VR2.step K b
def HR.step (K:jR g ν h w G' w') (U:∀b,G' b->b<w'.heap.size) (T:∀b,uM ν h b->¬G' b) (H:@HR _ g ν h w):@HR _ (g.re G' D Q M) ν h w':=by
 have L:ahn w (@Av _ g ν h) w' (@Av _ (g.re G' D Q M) ν h):=jR.kx K;have live:∀(id b:Nat) (o:Obj),(lkB h id).live=true->ę (ν id) b->w.heap[b]?=some o->Ie o=true->w'.heap[b]?=some o:=fun id b o r S hb hd=>K.dat b o hb hd fun _=>⟨id,r,S⟩;refine @HR.mk _ (g.re G' D Q M) ν h w' (fun id=>?_) (@HR.inj _ g _ _ _ H) (fun b hb=>hb.elim (U b) fun V=>df (@HR.ghlt _ g _ _ _ H b (.inr V)) K.size) (fun id b r hb hg=>hg.elim (T b ⟨id,r,hb⟩) fun V=>@HR.ghne _ g _ _ _ H id b r hb (.inr V)) (ë.keep _ _ (@HR.glob _ g _ _ _ H) fun b hb=>K.gl (@HR.glob _ g _ _ _ H) b hb) (@HR.globL _ g _ _ _ H);have j:=@HR.blk _ g _ _ _ H id;have a:=live id
 cases r:lkB h id with
 |dead=>trivial
 |cells cs =>
  rw[r] at j a;obtain⟨b,c,e,f,h2,n⟩:=j;exact⟨b,c,e,f,a b _ rfl (by rw[f]; rfl) h2 rfl,n.mono fun _ _=>VRc.step K⟩
 |row t g' fz xs =>
  rw[r] at j a
  cases fz with
  |true=>exact CR.kx L (t:=.fsl t) j
  |false =>
   obtain⟨base,cap,f,h2,n⟩:=j;refine⟨base,cap,f,h2,?_⟩;rcases n with n|⟨b,off,c,e,A,O,h6,h7⟩
   ·exact .inl n
   ·have I:=a b _ rfl (by rw[f,A]; rfl) O rfl;refine .inr ⟨b,off,c,e,A,I,h6,fun i x E=>?_⟩;obtain⟨us,y,z⟩:=h7 i x E;exact⟨us,CR.kx L y,z.keep (I.trans O.symm)⟩
 |map k v es =>
  rw[r] at j a;obtain⟨b,d,p,f,h2,n,A⟩:=j;refine⟨b,d,p,f,a b _ rfl (by rw[f]; rfl) h2 rfl,n,fun i x E=>?_⟩;obtain⟨m,us,y,z,B,N⟩:=A i x E;exact⟨m,us,y,CR.kx L z,CR.kx L B,N⟩
 |fns es =>
  rw[r] at j a;obtain⟨b,d,p,f,h2,n⟩:=j;exact⟨b,d,p,f,a b _ rfl (by rw[f]; rfl) h2 rfl,n.mono fun _ _ q=>⟨q.1,q.2.1,VR1.step K q.2.2⟩⟩
 |iter s q =>
  rw[r] at j a;obtain⟨b,f,h2,n⟩:=j;exact⟨b,f,a b _ rfl (by rw[f]; rfl) h2 rfl,n⟩
 |deep k g' xss =>
  rw[r] at j a;obtain⟨base,cap,us,f,h2,n,A,O⟩:=j;have own:∀u∈Value.slice base xss.length cap::us,∀(b:Nat) (o:Obj),jz u=some b->w.heap[b]?=some o->Ie o=true->w'.heap[b]?=some o:=fun u F b o hb=>a b o rfl (by rw[f]; exact⟨u,by simpa using F,hb⟩);refine⟨base,cap,us,f,h2,n,?_,?_⟩
  ·rcases A with A|⟨b,off,c,e,y,z,B⟩
   ·exact .inl A
   ·exact .inr ⟨b,off,c,e,y,own _ (.head _) b _ (by rw[y]; rfl) z rfl,B⟩
  ·have R:∀(l:AS (AS Int)) (m:AS Value),(∀u∈m,u∈us)->ò (Xq w k) l m->ò (Xq w' k) l m:=by
    intro l
    induction l with
    |nil=>intro m _ G; cases m with
     |nil=>trivial
     |cons=>exact G.elim
    |cons x l ih=>intro m W G; cases m with
     |nil=>exact G.elim
     |cons u m =>
      refine⟨?_,ih m (fun u F=>W u (fF _ F)) G.2⟩;obtain⟨C,J,y,z,B⟩:=G.1;refine⟨C,J,y,z,?_⟩;rcases B with B|⟨b,off,c,e,N,Z,Y⟩
      ·exact .inl B
      ·exact .inr ⟨b,off,c,e,N,own u (fF _ (W u (.head _))) b _ (by rw[y,N]; rfl) Z rfl,Y⟩
   exact R _ _ (fun u F=>F) O
 |acc t xs =>
  rw[r] at j a;obtain⟨us,f,h2,n,A⟩:=j;refine⟨us,f,fun b hb=>?_,n,?_⟩
  ·obtain⟨o,y,z⟩:=h2 b hb;exact⟨o,a b o rfl hb y z,z⟩
  ·refine g.st _ _ _ _ _ _ A ⟨K.os,K.tape,K.output,K.size,L.av,fun b o hb S E=>K.dat b o hb S fun hA=>⟨id,by rw[r]; rfl,E hA⟩,K.nd,K.gl⟩
def HR.re (H:@HR _ g ν h w):@HR _ (g.re g.G D Q M) ν h w:=@HR.mk _ (g.re g.G D Q M) ν h w (@HR.blk _ g ν h w H) (@HR.inj _ g ν h w H) (@HR.ghlt _ g ν h w H) (@HR.ghne _ g ν h w H) (@HR.glob _ g ν h w H) (@HR.globL _ g ν h w H)
def HR.er (H:@HR _ (g.re g.G D Q M) ν h w):@HR _ g ν h w:=@HR.mk _ g ν h w (@HR.blk _ (g.re g.G D Q M) ν h w H) (@HR.inj _ (g.re g.G D Q M) ν h w H) (@HR.ghlt _ (g.re g.G D Q M) ν h w H) (@HR.ghne _ (g.re g.G D Q M) ν h w H) (@HR.glob _ (g.re g.G D Q M) ν h w H) (@HR.globL _ (g.re g.G D Q M) ν h w H)
def jR.less {G':Nat->Prop} (d:∀b,G' b->g.G b):jR g ν h w G' w:=⟨rfl,rfl,rfl,cJ _,fun b _ a c=>a (.inr (d b c)),fun b o hb _ _=>hb,fun b o hb _ _=>hb,fun _ _ _=>rfl⟩
def jR.nds (c:w'.os=w.os) (i:w'.tape=w.tape) (k:w'.output=w.output) (j:w.heap.size<=w'.heap.size) (e:∀(b:Nat) (o:Obj),w.heap[b]?=some o->Ie o=true\/b<g.B->w'.heap[b]?=some o):jR g ν h w g.G w' :=
 ⟨c,i,k,j,fun b _ l m=>l (.inr m),fun b o hb hd _=>e b o hb (.inl hd),fun b o hb _ d=>e b o hb (.inr d),fun a b hb=>by obtain⟨o,f,h2⟩:=ë.dat w a b hb; rw[e b o f (.inl h2),f]⟩
end
end Go.Am
end

noncomputable section
namespace Go.Am
variable [ë] [Ð]
section
variable {ρ:Type} {ν ν':Nat->Value} {h h':AS Blk} {w w':World} {P:Program}
def NB {v a:AV} (e:afZ v=some a):a=v/\v.isTup=false:=by
 cases v<;>simp only[afZ,Option.some.injEq,reduceCtorEq] at e<;>exact⟨e.symm,rfl⟩
def ZT {S:St} {a:Act} (H:Sim ν S a w) {rv:ResultVar} {v:AV} (e:VK P S.h S.t rv=some v) :
 ∃u,(match rv with|.tmp t=>(pure (a.tmps.getD t undef):Sem Value)|.cell x t=>do loadVar t (<-asAddr (a.tmps.getD x undef))).run P w=.ok u w/\VR2 ν S.h w v u:=by
 cases rv with
 |tmp i =>
  obtain⟨rfl,d⟩:=NB e;have:=H.tmps i;rw[sa d] at this;exact⟨_,rfl,this⟩
 |cell x t =>
  simp only[VK] at e
  split at e<;>try (cases e; done)
  rename_i j f;obtain⟨rfl,d⟩:=NB e;obtain⟨u,b,h2⟩:=ade H.heap f (H.tmps x);rw[sa d] at h2;refine⟨u,?_,h2⟩;simp only[Instr.loadAt] at b
  cases c:a.tmps.getD x undef with
  |pointer p =>
   rw[c] at b
   cases p with
   |none=>simp[Instr.sureAddr] at b
   |some k =>
    show(do loadVar t (<-asAddr (a.tmps.getD x undef)):Sem Value).run P w=_;rw[c];simpa[Instr.sureAddr,asAddr] using b
  |_=>rw[c] at b; simp[Instr.sureAddr] at b
def Na {S:St} {a:Act} (H:Sim ν S a w):∀{rs:AS ResultVar} {vs:AS AV},HN P S.h S.t rs=some vs ->
 ∃us:AS Value,(rs.mapM (m:=Sem) fun|.tmp t=>pure (a.tmps.getD t undef)|.cell x t=>do loadVar t (<-asAddr (a.tmps.getD x undef))).run P w=.ok us w/\ò (VR2 ν S.h w) vs us
 |[],vs,e=>by cases e; exact⟨[],rfl,trivial⟩
 |rv::rs,vs,e=>by
  simp only[HN] at e
  split at e<;>try (cases e; done)
  rename_i v d
  split at e<;>try (cases e; done)
  rename_i c b;cases e;obtain⟨u,j,h2⟩:=ZT H d;obtain⟨us,i,f⟩:=Na H b;refine⟨u::us,?_,h2,f⟩;simp only[List.mapM_cons,Sem.run_bind,Sem.run_pure];rw[j];simp only[Result.andThen_ok];rw[i];rfl
def VR2.up {v:AV} {u:Value} (a:VR2 ν h w v u):VR ν h w v u:=by
 cases b:v.isTup with
 |true =>
  cases v<;>try cases b
  exact a.elim
 |false=>rw[sa b]; exact a
def DX {S:St} {a:Act} {fn:Func} {v:AV} (H:Sim ν S a w) (e:kf P fn S=some v):∃u,(results fn a.tmps).run P w=.ok u w/\VR ν S.h w v u:=by
 unfold kf at e
 cases c:HN P S.h S.t fn.results.toList with
 |none=>rw[c] at e; cases e
 |some vs =>
  obtain⟨us,d,h2⟩:=Na H c
  have b:(results fn a.tmps).run P w=.ok (if h:us.toArray.size=1 then us.toArray[0] else .tuple us.toArray) w:=by
   unfold results;rw[Sem.run_bind,Array.mapM_eq_mapM_toList,Sem.run_map]
   erw [d]
   rfl
  rw[c] at e
  rcases vs with _|⟨x,_|⟨y,l⟩⟩<;>rcases us with _|⟨u,_|⟨u',m⟩⟩
  ·cases e; exact⟨_,b,⟨#[],by simp,trivial⟩⟩
  ·exact h2.elim
  ·exact h2.elim
  ·exact h2.elim
  ·cases e; exact⟨_,b,h2.1.up⟩
  ·exact h2.2.elim
  ·exact h2.elim
  ·exact h2.2.elim
  ·cases e; exact⟨_,b,⟨(u::u'::m).toArray,by simp,h2⟩⟩
def ò.lk {R:AV->Value->Prop} (a:∀u,R .any u):∀{l:AS AV} {m:AS Value} (i:Nat),ò R l m->R (Am.lk l i) (m.getD i undef)
 |[],[],i,_=>a _
 |_::_,_::_,0,h=>h.1
 |_::_,_::_,i+1,h=>by simpa[afl,afm,afk] using ò.lk a i h.2
 |[],_::_,_,h=>h.elim
 |_::_,[],_,h=>h.elim
def C4 (h:Ð.Q=none):fen=Fence.wide:=by
 unfold fen;rw[h];rfl
omit [Ð] in
def mw {F:Fence} {n:Nat} {fn:Func} {tmps:Array Value} {R:Ending->World->Prop}:∀(ms:AS Nat) (w:World),ms.Nodup->(∀k∈ms,w.heap[k]?=some (.deferred (some []))) ->
 (∀w':World,w'.heap.size=w.heap.size->w'.os=w.os->w'.tape=w.tape->w'.output=w.output->(∀b,b∉ms->w'.heap[b]?=w.heap[b]?)->LeavesIn F n P fn tmps R [] .returning w')->LeavesInM F n P fn tmps R (ms.map mk1) .returning w
 |[],w,_,_,h=>h w rfl rfl rfl rfl fun _ _=>rfl
 |k::ms,w,o,a,h=>by
  refine⟨by simp,.inl ⟨k,_,rfl,run_takeDeferred (a k (.head _)),?_⟩⟩;obtain⟨q,h2⟩:=fj.1 o;refine mw ms _ h2 (fun j c=>?_) fun w' m l i f d=>h w' (by rw[m]; simp[World.putObj]) l i f fun b hb=>?_
  ·rw[World.putObj_heap_other (fun e=>q (by rw[<-e]; exact c))];exact a j (.tail _ c)
  ·rw[d b fun p=>hb (.tail _ p)];exact World.putObj_heap_other fun e=>hb (by rw[e]; exact .head _)
omit [Ð] in
def KO {g:Ð} {E:Env ρ} {call:AS Nat->Bool->Nat->AS AV->AS Blk->(AV->AS Blk->AN ρ)->AN ρ} {N:Nat} (hE:∀M,@jS _ (g.re g.G [] none M) ρ E N call) (hD:∀M,@nh _ (g.re g.G [] none M) ρ E N call) {path:AS Nat} (n:path.length+2=N) {f:Nat} {args:AS AV} {K:AV->AS Blk->AN ρ} {r:ρ}
 (hL:∀M fn c,E.P.funcs[f]?=some fn->fn.body=some c->∀x∈Þ 0 c,@ng _ (g.re g.G [] none M) ρ E path f x.1 x.2)
 (e:UK E call path f args h K=some r) {vals:AS Value} (H:@HR _ g ν h w) (W:g.B<=w.heap.size) (d:ò (@VR _ g ν h w) args vals) :
 (∃fn c,E.P.funcs[f]?=some fn/\fn.body=some c) /\
 CallsIn Fence.wide 0 E.P f vals.toArray w fun e w'=>∃ν' h' v u,e=.returned u/\@VR _ g ν' h' w' v u/\@HR _ g ν' h' w'/\Ev h.length ν h w ν' h' w'/\h.length<=h'.length/\(∀j,j<h.length->lkB h j=.dead->lkB h' j=.dead)/\K v h'=some r:=by
 rw[aaO] at e
 split at e<;>try (cases e; done)
 rename_i fn p
 split at e<;>try (cases e; done)
 rename_i c V;refine⟨⟨fn,c,p,V⟩,?_⟩
 letI g':Ð:=g.re g.G [] none w.heap.size
 refine callsIn_of_wp_marks p V trivial ?_;have y:=d.length
 have hS:Sim ν {t:=args++List.replicate (fn.ntmps-args.length) .any,h:=h} {tmps:=vals.toArray++Array.replicate (fn.ntmps-vals.toArray.size) undef,defers:=[]} w:=by
  refine⟨⟨⟨[],rfl,fB,fun _ h=>(by cases h)⟩,fun l z=>(by cases z),W,cJ _⟩,by simp[y],fun i=>?_,HR.re H⟩;simp only[J6];rcases dC i args.length with hi|hi
  ·have:=ò.lk (R:=@VR _ g ν h w) (fun _=>trivial) i d
   have O:i<vals.length:=by omega
   have h2:(vals.toArray++Array.replicate (fn.ntmps-vals.toArray.size) undef).getD i undef=vals.getD i undef:=by
    simp[dR,eZ,O]
   rw[h2]; exact this
  ·rw[adg _ _ hi]; trivial
 have A:=kE (hE _) (hD _) n c 0 _ _ ν _ w (hL _ fn c p V) e hS (cJ _);rw[C4 rfl] at A;refine wpIn_mono A fun x F w' ha=>?_;obtain⟨ν',C,s,h2,h3,h4,a⟩:=ha
 have fin:∀v,kf E.P fn C=some v->K v C.h=some r->LeavesInM Fence.wide 0 E.P fn F.tmps (fun e w'=>∃ν' h' v u,e=.returned u/\@VR _ g ν' h' w' v u/\@HR _ g ν' h' w'/\Ev h.length ν h w ν' h' w'/\h.length<=h'.length/\(∀j,j<h.length->lkB h j=.dead->lkB h' j=.dead)/\K v h'=some r) F.defers .returning w':=by
  intro v O U;obtain⟨⟨ms,m1,m2,L⟩,_,m4,m5⟩:=s.defers;rw[show F.defers=ms.map mk1 from m1.trans (dv _)];refine mw ms w' m2 (fun k U=>(L k U).1) fun I q1 q2 q3 Z Y=>?_
  have T:∀(b:Nat) (o:Obj),w'.heap[b]?=some o->Ie o=true\/b<g'.B->I.heap[b]?=some o:=fun b o hb hd=>by
   have q:b∉ms:=fun S=>by
    obtain⟨m6,J⟩:=L b S;rw[m6] at hb; cases hb;rcases hd with hd|hd
    ·cases hd
    ·have:g'.B<=w.heap.size:=W;have J:w.heap.size<=b:=J;omega
   rw[Y b q]; exact hb
  have KG:jR g' ν' C.h w' g'.G I:=jR.nds q2 q3 Z (by omega) T;have m:Sim ν' C {F with defers:=[]} I:=⟨⟨⟨[],rfl,fB,fun _ h=>(by cases h)⟩,fun l z=>(by cases z),W,by rw[q1]; exact m5⟩,s.len,fun i=>VR.step (g:=g') (D:=[]) (Q:=none) (M:=w.heap.size) KG (s.tmps i),HR.step (g:=g') (D:=[]) (Q:=none) (M:=w.heap.size) KG (fun b hb=>by have:=s.heap.ghL b hb; omega) (fun b ⟨id,z,ho⟩=>s.heap.ghG id b z ho) s.heap⟩;obtain⟨u,r1,r2⟩:=DX m O;refine⟨u,r1,ν',C.h,v,u,rfl,r2,HR.er m.heap,⟨q2.trans h2.os,q3.trans h2.tape,Z.trans h2.output,by rw[q1]; exact h2.size,fun b hb hn=>?_,h2.blk⟩,h3,h4,U⟩;obtain⟨e1,e2⟩:=h2.keep b hb hn;refine⟨?_,e2⟩
  have q:b∉ms:=fun S=>by
   have J:w.heap.size<=b:=(L b S).2;omega
  rw[Y b q]; exact e1
 cases x with
 |normal =>
  simp only at a
  split at a<;>try (cases a; done)
  exact fin _ ‹_› a
 |ret =>
  simp only at a
  split at a<;>try (cases a; done)
  exact fin _ ‹_› a
 |exit id=>cases a
 |goto l=>cases a
 |panic ch=>cases a
 |outgrown=>cases a
def ajc (P:Program) (f:Nat) (X:AS Blk->AS AV->(AV->AS Blk->AN ρ)->AN ρ):Prop :=
 ∀(h:AS Blk) (args:AS AV) (K:AV->AS Blk->AN ρ) (r:ρ),X h args K=some r->∀ν w vals,HR ν h w->ò (VR ν h w) args vals->DP P f ν h w vals K r
structure MV (E:Env ρ):Prop where
 pure:∀f p,E.pure f=some p->Ξ E.P f p
 sort:∀f,E.sort f=true->∀(h:AS Blk) (x:AV) (K:AV->AS Blk->AN ρ) (r:ρ),O5 h x K=some r->∀ν w u,HR ν h w->VR ν h w x u->DP E.P f ν h w [u] K r
 compact:∀f,E.compact f=true->∀(h:AS Blk) (x:AV) (K:AV->AS Blk->AN ρ) (r:ρ),nW h x K=some r->∀ν w u,HR ν h w->VR ν h w x u->DP E.P f ν h w [u] K r
 plain : ∀ (f : Nat) (fn : Func), E.P.funcs[f]? = some fn -> (fn.name == "runtime.NumGoroutine") = false
 clone:E7 E.P E.clone
 joins:ZD E
 yld:kR E
 ext:∀f X,E.ext f=some X->ajc E.P f X
omit [Ð] in
def aeg {E:Env ρ} (n:Nat):(∀f p,E.pure f=some p->∀path a args h K,jm E (n+1) path a f args h K=Pc (a&&!E.fz f) p h args K) /\
 (∀f,E.pure f=none->E.sort f=true->∀path a args h K,jm E (n+1) path a f args h K=match args with|[x]=>O5 h x K|_=>none) /\
 (∀f,E.pure f=none->E.sort f=false->E.compact f=true->∀path a args h K,jm E (n+1) path a f args h K=match args with|[x]=>nW h x K|_=>none) :=
 ⟨fun f p b path a args h K=>by simp only[jm,b],fun f b c path a args h K=>by simp only[jm,b,c]; rfl,fun f b c d path a args h K=>by simp only[jm,b,c,d]; rfl⟩
omit [Ð] in
def oZ {E:Env ρ} (d:∀[Ð],kR E->MV E) (hdraw:∀[Ð] L call,jS E L call->nh E L call)
 (hloops:∀n,n<=10->(∀[Ð],kR E->jS E (22-2*n) (jm E n))->∀[Ð],kR E->∀(path:AS Nat) (f:Nat) (fn:Func) (c:Code),path.length+2=22-2*n->E.P.funcs[f]?=some fn->fn.body=some c->∀x∈Þ 0 c,ng E path f x.1 x.2) :
 ∀n,n<=10->∀[Ð],kR E->jS E (22-2*n) (jm E n):=by
 intro n
 induction n with
 |zero=>exact fun _ _ k=>⟨.inl fun _ _ _ _ _ _=>rfl,fun path o g args h K r _ e=>(by cases e),(d k).plain,(d k).clone,(d k).joins,k⟩
 |succ n q =>
  intro I j k;have hE:∀[Ð],kR E->jS E (22-2*n) (jm E n):=q (by omega);have a:=d k;refine⟨.inr (aeg n),fun path o g args h K r F e ν w vals H A b=>?_,a.plain,a.clone,a.joins,k⟩;simp only[jm] at e
  split at e
  ·rename_i C v;exact ZW (a.pure g C v) e H b
  ·split at e
   ·rename_i s
    split at e<;>try (cases e; done)
    rename_i x;obtain⟨u,rfl,p⟩:=b.one;exact a.sort g s h x K r e ν w u H p
   ·split at e
    ·rename_i y
     split at e<;>try (cases e; done)
     rename_i x;obtain⟨u,rfl,p⟩:=b.one;exact a.compact g y h x K r e ν w u H p
    ·split at e
     ·rename_i X z;exact a.ext g X z h args K r e ν w vals H b
     split at e<;>try (cases e; done)
     split at e<;>try (cases e; done)
     have i:path.length+2=22-2*n:=by omega
     have l:∀M,@kR _ (j.re j.G [] none M) ρ E:=fun _=>k;have m:∀M,@jS _ (j.re j.G [] none M) ρ E (22-2*n) (jm E n):=fun M=>@hE (j.re j.G [] none M) (l M);exact KO m (fun M=>@hdraw (j.re j.G [] none M) _ _ (m M)) i (fun M fn c B h2=>@hloops n (by omega) hE (j.re j.G [] none M) (l M) path g fn c i B h2) e H A b
end
end Go.Am
end

noncomputable section
namespace Go.Am
variable [ë] [Ð]
section
variable {ρ:Type} {P:Program} {h h2:AS Blk} {t t2:AS AV}
def mH (h h2:AS Blk) (v:AV):Prop:=∀id∈refs2 h v,lkB h2 id=lkB h id
def mH.one {v:AV} (a:mH h h2 v):∀id∈refs1 v,lkB h2 id=lkB h id:=fun id hi=>a id (by simp only[refs2,cR]; exact .inl hi)
def mH.refs {v:AV} (c:mH h h2 v):refs2 h2 v=refs2 h v:=by
 simp only[refs2]
 have:∀(l:AS Nat),(∀id∈l,lkB h2 id=lkB h id)->(l.flatMap fun id=>(K3 (lkB h2 id)).flatMap ā)=l.flatMap fun id=>(K3 (lkB h id)).flatMap ā:=by
  intro l
  induction l with
  |nil=>intro _; rfl
  |cons x l b=>intro a; simp only[dH]; rw[a x (by simp),b fun id hi=>a id (by simp[hi])]
 rw[this _ c.one]
def lf {v:AV} (a:∀id∈ā v,lkB h2 id=lkB h id):ñ h2 v=ñ h v:=by
 cases v<;>first
  |rfl
  |(simp only[ñ]; rw[a _ (by simp[ā])])
def AI {v:AV} (d:∀id∈refs1 v,lkB h2 id=lkB h id):XJ h2 v=XJ h v:=by
 have one:(∀id∈ā v,lkB h2 id=lkB h id)->ñ h2 v=ñ h v:=lf
 cases v with
 |agg cs =>
  simp only[XJ,AV.agg.injEq];exact fp fun c e=>lf fun id hi=>d id (dN.2 ⟨c,e,hi⟩)
 |fn f a b=>exact one fun _ hi=>by cases hi
 |_=>exact one d
def aay {ty:TypeId} {a:AV} (b:∀id∈refs1 a,lkB h2 id=lkB h id) (K:AV->AN ρ):J5 P h2 ty a K=J5 P h ty a K:=by
 cases a<;>first
  |rfl
  |(simp only[J5]; rw[b _ (by simp[refs1,ā])])
def VF {o:Nat} {a:AV} (b:∀id∈refs1 a,lkB h2 id=lkB h id) (K:AV->AN ρ):uT h2 a o K=uT h a o K:=by
 cases a<;>first
  |rfl
  |(simp only[uT]; rw[b _ (by simp[refs1,ā])])
def WI {sz:Nat} {a i:AV} (b:∀id∈refs1 a,lkB h2 id=lkB h id) (K:AV->AN ρ):zl sz h2 a i K=zl sz h a i K:=by
 cases i<;>try rfl
 cases a<;>first
  |rfl
  |(simp only[zl]; rw[b _ (by simp[refs1,ā])])
def adk {d:AN TypeDesc} {a:AV} (b:∀id∈refs1 a,lkB h2 id=lkB h id) (K:AV->AN ρ):afn d h2 a K=afn d h a K:=by
 unfold afn
 split<;>cases a<;>first
  |rfl
  |(simp only[]; rw[b _ (by simp[refs1,ā])])
def Ub {ty:TypeId} {m i:AV} {ok:Bool} (a:∀id∈refs1 m,lkB h2 id=lkB h id) (K:AV->AN ρ):lF P h2 ty m i ok K=lF P h ty m i ok K:=by
 unfold lF
 have:ñ h2 m=ñ h m:=lf fun id hi=>a id (by cases m<;>first|exact hi|simp[ā] at hi)
 rw[this]
def Xj {σ:Type} {a:AV} {K:AV->AN σ} (b:∀id∈refs1 a,lkB h2 id=lkB h id):zw h2 a K=zw h a K:=by
 cases a<;>first
  |rfl
  |(simp only[zw]; rw[b _ (by simp[refs1,ā])])
def Uc {σ:Type} {P:Program} {ty:TypeId} {id:Nat} {i:AV} {ok:Bool} {K:AV->AN σ} (a:lkB h2 id=lkB h id):qt P h2 ty id i ok K=qt P h ty id i ok K:=by
 unfold qt;rw[a]
def Fg {σ:Type} {sz:Nat} {a:AV} {lo hi:AN AV} (K:AV->AS Blk->AN σ):ox sz h a lo hi false K=(ox sz h a lo hi false fun v _=>some v).bind fun v=>K v h:=by
 unfold ox;dsimp only
 (repeat' split)<;>rfl
def VD {sz:Nat} {a:AV} {lo hi:AN AV} (b:∀id∈refs1 a,lkB h2 id=lkB h id):∃φ:AN AV,(∀{σ:Type} (K:AV->AS Blk->AN σ),ox sz h a lo hi false K=φ.bind fun v=>K v h)/\∀{σ:Type} (K:AV->AS Blk->AN σ),ox sz h2 a lo hi false K=φ.bind fun v=>K v h2:=by
 refine⟨ox sz h a lo hi false fun v _=>some v,fun K=>?_,fun K=>?_⟩
 ·exact Fg K
 ·rw[Fg K];congr 1
  cases a<;>first
   |rfl
   |(simp only[ox]; rw[b _ (by simp[refs1,ā])])
def ap (nid:Nat) (a:AN Blk) (h:AS Blk):AS Blk:=match a with|none=>h|some B=>ì h nid B
def pbind {α σ σ2:Type} {R:AN σ->AN σ2->Prop} (h0:R none none) {x:AN α} {K:α->AN σ} {K2:α->AN σ2} (h:∀a,R (K a) (K2 a)):R (x.bind K) (x.bind K2):=by
 cases x with
 |none=>exact h0
 |some a=>exact h a
def pb2 {α σ σ2:Type} {R:AN σ->AN σ2->Prop} (h0:R none none) {x:AN α} {K:α->AN σ} {K2:α->AN σ2} {z:AN σ} {b:AN σ2} (c:z=x.bind K) (h2:b=x.bind K2) (h:∀a,R (K a) (K2 a)):R z b:=by
 subst c h2; exact pbind h0 h
def Il {l:AS Operand} (a:∀x∈l,ev t2 x=ev t x):l.map (ev t2)=l.map (ev t):=fp a
def acH {l:AS (Nat×Operand)} (a:∀x∈l.map (·.2),ev t2 x=ev t x):(l.map fun p=>(p.1,ev t2 p.2))=l.map fun p=>(p.1,ev t p.2):=fp fun p b=>by rw[a p.2 (dL.2 ⟨p,b,rfl⟩)]
def M9 {ty:Ty}:∀{ps:AS (Nat×AV)} {n:Nat},(∀p∈ps,∀id∈refs1 p.2,lkB h2 id=lkB h id)->HL h2 ty n ps=HL h ty n ps
 |[],_,_=>rfl
 |(i,v)::ps,n,a=>by
  simp only[HL];rw[AI (a (i,v) (by simp)),M9 fun q b=>a q (by simp[b])]
def ahz {σ σ2:Type} {R:AN σ->AN σ2->Prop} {E:Env ρ} {o:Op} {nid:Nat} {K:AV->St->AN σ} {K2:AV->St->AN σ2} (h0:R none none) (s:cls E o<=1) (C:Oq o=false)
 (k:∀x∈o.operands.toList,ev t2 x=ev t x) (A:cls E o=1->∀x∈o.operands.toList,∀id∈refs1 (ev t x),lkB h2 id=lkB h id)
 (H:∀v G,(G.isSome=true->û E.clone o=true)->R (K v {t:=t,h:=ap nid G h}) (K2 v {t:=t2,h:=ap nid G h2})) :
 R (opK P {t:=t,h:=h} nid false o K) (opK P {t:=t2,h:=h2} nid false o K2):=by
 have j:∀v,R (K v {t:=t,h:=h}) (K2 v {t:=t2,h:=h2}):=fun v=>H v none (by simp);have ha:û E.clone o=true->∀v B,R (K v {t:=t,h:=ì h nid B}) (K2 v {t:=t2,h:=ì h2 nid B}):=fun S v B=>H v (some B) fun _=>S
 cases o with
 |move x =>
  have e:=k x (by simp[Op.operands]);simp only[opK,e]; exact j _
 |assign x =>
  have e:=k x (by simp[Op.operands]);simp only[opK,e]; exact j _
 |pick c a b =>
  have q:=k c (by simp[Op.operands]);have u:=k a (by simp[Op.operands]);have O:=k b (by simp[Op.operands]);simp only[opK,q,u,O]
  (repeat' split)<;>first|exact h0|exact j _
 |box _ x =>
  have e:=k x (by simp[Op.operands]);simp only[opK,e]
  (repeat' split)<;>first|exact h0|exact ha rfl _ _
 |alloc e =>
  simp only[opK]
  (repeat' split)<;>first|exact h0|exact ha rfl _ _
 |build ty ps =>
  have e:=acH (l:=ps.toList) (t:=t) (t2:=t2) fun x p=>k x (by simpa[Op.operands] using p);simp only[opK,e]
  (repeat' split)<;>first|exact h0|exact j _
 |buildSlice ty n ps=>exact absurd s (by decide:¬2<=1)
 |load ty a =>
  have e:=k a (by simp[Op.operands]);have d:=A rfl a (by simp[Op.operands]);simp only[opK,e];rw[aay d];exact pb2 h0 (rM ..) (rM ..) fun v=>j v
 |nilCheck x =>
  have e:=k x (by simp[Op.operands]);have d:=A rfl x (by simp[Op.operands]);simp only[opK,e]
  cases L:ev t x with
  |optr id g i off =>
   have:=d id (by rw[L]; simp[refs1,ā]);simp only[this]
   (repeat' split)<;>first|exact h0|exact j _
  |_=>first|exact h0|exact j _
 |binOp op ty x y yt =>
  have q:=k x (by simp[Op.operands]);have u:=k y (by simp[Op.operands]);simp only[opK,q,u]
  split
  ·exact pb2 h0 (xl ..) (xl ..) fun v=>j v
  ·exact pb2 h0 (xN ..) (xN ..) fun v=>j v
 |unOp op ty x =>
  have e:=k x (by simp[Op.operands]);simp only[opK,e]
  (repeat' split)<;>first|exact h0|exact j _|exact pb2 h0 (AB ..) (AB ..) fun v=>j v
 |convert src dst x =>
  have e:=k x (by simp[Op.operands]);have d:=A rfl x (by simp[Op.operands]);simp only[opK,e]
  (repeat' split)<;>first|exact h0|exact j _|(rw[Xj d]; exact pb2 h0 (oo ..) (oo ..) fun v=>j v)
 |makeFunc fn first captured =>
  have q:=Il (l:=first.toList) (t:=t) (t2:=t2) fun x p=>k x (by simp[Op.operands]; exact .inl (by simpa using p));have u:=Il (l:=captured.toList) (t:=t) (t2:=t2) fun x p=>k x (by simp[Op.operands]; exact .inr (by simpa using p));simp only[opK,q,u]
  (repeat' split)<;>first|exact h0|exact j _
 |makeMap ty r =>
  simp only[opK]
  (repeat' split)<;>first|exact h0|exact ha rfl _ _
 |range ty x =>
  have e:=k x (by simp[Op.operands]);simp only[opK,e]
  (repeat' split)<;>first|exact h0|exact ha rfl _ _
 |makeSlice ty l c =>
  have e:=k l (by simp[Op.operands]);simp only[opK,e]
  (repeat' split)<;>first|exact h0|exact ha rfl _ _
 |slice ty x lo hi mx =>
  have e:=k x (by simp[Op.operands]);have d:=A rfl x (by simp[Op.operands])
  have q:lo.map (ev t2)=lo.map (ev t):=by
   cases lo with
   |none=>rfl
   |some l=>simp[k l (by simp[Op.operands])]
  have u:hi.map (ev t2)=hi.map (ev t):=by
   cases hi with
   |none=>rfl
   |some l=>simp[k l (by simp[Op.operands])]
  simp only[opK,e,q,u]
  (repeat' split)<;>first
   |exact h0
   |exact pb2 h0 (iY ..) (iY ..) fun v=>j v
   | (obtain ⟨φ, J, I⟩ := VD d
      rw[J,I]
      exact pbind h0 fun v=>j v)
 |fieldAddr ty x f =>
  have e:=k x (by simp[Op.operands]);have d:=A rfl x (by simp[Op.operands]);simp only[opK,e]
  (repeat' split)<;>first
   |exact h0
   |(rw[VF d]; exact pb2 h0 (oc ..) (oc ..) fun v=>j v)
 |field ty x f =>
  have e:=k x (by simp[Op.operands]);simp only[opK,e]
  (repeat' split)<;>first|exact h0|exact j _
 |indexAddr ty x i =>
  have q:=k x (by simp[Op.operands]);have u:=k i (by simp[Op.operands]);have d:=A rfl x (by simp[Op.operands]);simp only[opK,q,u]
  (repeat' split)<;>first
   |exact h0
   |exact j _
   |exact pb2 h0 (ω ..) (ω ..) fun v=>j _
   |(rw[WI d]; exact pb2 h0 (oh ..) (oh ..) fun v=>j v)
 |index ty x i =>
  have q:=k x (by simp[Op.operands]);have u:=k i (by simp[Op.operands]);simp only[opK,q,u]
  (repeat' split)<;>first|exact h0|exact j _|exact pb2 h0 (iZ ..) (iZ ..) fun v=>j v|exact pb2 h0 (ω ..) (ω ..) fun v=>by(repeat' split)<;>first|exact h0|exact j _
 |lookup ty m i ok =>
  have q:=k m (by simp[Op.operands]);have u:=k i (by simp[Op.operands]);have d:=A rfl m (by simp[Op.operands]);simp only[opK,q,u]
  cases p:ev t m with
  |ofn id =>
   rw[p] at d;simp only;rw[Uc (d id (by simp[refs1,ā]))];exact pb2 h0 (lG ..) (lG ..) fun v=>j v
  |_ =>
   rw[p] at d;simp only;rw[Ub d];exact pb2 h0 (lE ..) (lE ..) fun v=>j v
 |extract x i =>
  have e:=k x (by simp[Op.operands]);simp only[opK,e]
  (repeat' split)<;>first|exact h0|exact j _
 |call c =>
  obtain⟨z,args,tys⟩:=c
  cases z with
  |builtin b =>
   have e:=Il (l:=args.toList) (t:=t) (t2:=t2) fun x p=>k x (by simpa[Op.operands,Call.operands] using p);have d:cls E (.call ⟨.builtin b,args,tys⟩)=1->∀x∈args.toList,∀id∈refs1 (ev t x),lkB h2 id=lkB h id:=fun N x p=>A N x (by simpa[Op.operands,Call.operands] using p);generalize F:args.toList=l at e d;generalize p:tys.toList=m
   cases b with
   |append=>simp[cls] at s
   |clear=>simp[cls] at s
   |len =>
    rcases l with _|⟨x,_|⟨y,l⟩⟩<;>rcases m with _|⟨ty,m⟩<;>simp only[opK,F,p]<;>try exact h0
    have q:ev t2 x=ev t x:=by simpa using e
    rw[q,adk (d rfl x (by simp))];exact pb2 h0 (xg ..) (xg ..) fun v=>j v
   |cap =>
    rcases l with _|⟨x,_|⟨y,l⟩⟩<;>rcases m with _|⟨ty,m⟩<;>simp only[opK,F,p]<;>try exact h0
    have q:ev t2 x=ev t x:=by simpa using e
    rw[q]
    (repeat' split)<;>first|exact h0|exact j _
   |min =>
    rcases l with _|⟨x,l⟩<;>simp only[opK,F,p]<;>try exact h0
    simp only[eM,List.cons.injEq] at e;rw[e.1,e.2];exact pb2 h0 (θ _ _ _ _) (θ _ _ _ _) fun v=>j v
   |max =>
    rcases l with _|⟨x,l⟩<;>simp only[opK,F,p]<;>try exact h0
    simp only[eM,List.cons.injEq] at e;rw[e.1,e.2];exact pb2 h0 (θ _ _ _ _) (θ _ _ _ _) fun v=>j v
   |_=>simp only[opK]; (repeat' split)<;>first|exact h0|contradiction
  |value f=>cases C
  |invoke r m=>exact h0
 |store=>simp[cls] at s
 |mapUpdate=>simp[cls] at s
 |insert=>simp[cls] at s
 |next=>simp[cls] at s
 |_=>exact h0
def aps (ups:AS (Nat×Blk)) (h:AS Blk):AS Blk:=ups.foldl (fun h p=>ì h p.1 p.2) h
def EZ {id:Nat} {B:Blk}:aps [(id,B)] h=ì h id B:=rfl
def ka {u v:AS (Nat×Blk)}:aps (u++v) h=aps v (aps u h):=by simp[aps]
def rN:∀(ups:AS (Nat×Blk)) (h:AS Blk),(aps ups h).length=h.length
 |[],_=>rfl
 |p::ups,h=>by show(aps ups (ì h p.1 p.2)).length=_; rw[rN ups,Ï]
def OZ {id:Nat}:∀{ups:AS (Nat×Blk)} {h:AS Blk},(∀p∈ups,p.1≠id)->lkB (aps ups h) id=lkB h id
 |[],_,_=>rfl
 |p::ups,h,a=>by
  show lkB (aps ups (ì h p.1 p.2)) id=_;rw[OZ fun q b=>a q (by simp[b]),Ó _ (Ne.symm (a p (by simp)))]
def xO {id:Nat}:∀{ups:AS (Nat×Blk)} {h h2:AS Blk},h2.length=h.length->lkB h2 id=lkB h id->lkB (aps ups h2) id=lkB (aps ups h) id
 |[],_,_,_,a=>a
 |p::ups,h,h2,b,a=>xO (ups:=ups) (h:=ì h p.1 p.2) (h2:=ì h2 p.1 p.2) (by simp[Ï,b]) (by simp only[tg,b,a])
def YV {v:AV} (d:∀id∈ā v,lkB h2 id=lkB h id):∃ups,o9 h v=aps ups h/\o9 h2 v=aps ups h2/\∀p∈ups,p.1∈ā v:=by
 have b:o9 h v=h->o9 h2 v=h2->∃ups,o9 h v=aps ups h/\o9 h2 v=aps ups h2/\∀p∈ups,p.1∈ā v:=fun f c=>⟨[],f,c,by simp⟩
 cases v with
 |own id g =>
  have e:=d id (by simp[ā])
  cases a:lkB h id with
  |row t g fz xs =>
   rw[a] at e;exact⟨[(id,.row t g true xs)],by simp only[o9,a]; rfl,by simp only[o9,e]; rfl,by simp[ā]⟩
  |_=>rw[a] at e; exact b (by simp only[o9,a]) (by simp only[o9,e])
 |sub id g lo n =>
  have e:=d id (by simp[ā])
  cases a:lkB h id with
  |row t g fz xs =>
   rw[a] at e;exact⟨[(id,.row t g true xs)],by simp only[o9,a]; rfl,by simp only[o9,e]; rfl,by simp[ā]⟩
  |_=>rw[a] at e; exact b (by simp only[o9,a]) (by simp only[o9,e])
 |_=>exact b rfl rfl
def Qq:∀{cs:AS AV} {h h2:AS Blk},h2.length=h.length->(∀c∈cs,∀id∈ā c,lkB h2 id=lkB h id)->∃ups,xZ h cs=aps ups h/\xZ h2 cs=aps ups h2/\∀p∈ups,∃c∈cs,p.1∈ā c
 |[],_,_,_,_=>⟨[],rfl,rfl,by simp⟩
 |c::cs,h,h2,f,e=>by
  obtain⟨u,i,b,m⟩:=YV (e c (by simp));obtain⟨v,l,k,j⟩:=Qq (cs:=cs) (h:=o9 h c) (h2:=o9 h2 c) (by rw[lI,lI,f]) (fun d hd id hi=>by rw[i,b]; exact xO f (e d (by simp[hd]) id hi));refine⟨u++v,by simp only[xZ]; rw[l,i,ka],by simp only[xZ]; rw[k,b,ka],fun p a=>?_⟩;rcases cR.1 a with a|a
  ·exact⟨c,by simp,m p a⟩
  ·obtain⟨d,hd,hi⟩:=j p a;exact⟨d,by simp[hd],hi⟩
def Qo {v:AV} (l:h2.length=h.length) (k:∀id∈refs1 v,lkB h2 id=lkB h id):∃ups,frz h v=aps ups h/\frz h2 v=aps ups h2/\∀p∈ups,p.1∈refs1 v:=by
 have one:(∀id∈ā v,lkB h2 id=lkB h id)->∃ups,o9 h v=aps ups h/\o9 h2 v=aps ups h2/\∀p∈ups,p.1∈ā v:=YV
 cases v with
 |agg cs =>
  obtain⟨u,j,d,i⟩:=Qq (cs:=cs) l fun c m id hi=>k id (dN.2 ⟨c,m,hi⟩);exact⟨u,j,d,fun p e=>dN.2 (i p e)⟩
 |fn f a b =>
  obtain⟨u,j,d,i⟩:=one fun _ hi=>by cases hi
  exact⟨u,j,d,fun p e=>by cases i p e⟩
 |_=>exact one k
def RC {x:AV} (a:∀id∈refs1 x,lkB h2 id=lkB h id):ñ h2 x=ñ h x:=lf fun id hi=>a id (by cases x<;>first|exact hi|simp[ā] at hi)
def RB {ty:Ty} {x:AV} (a:∀id∈refs1 x,lkB h2 id=lkB h id):Ù (.slice ty) [ñ h2 x]=Ù (.slice ty) [ñ h x]:=by
 have:ñ h2 x=ñ h x:=lf fun id hi=>a id (by cases x<;>first|exact hi|simp[ā] at hi)
 rw[this]
def aa4 {v:AV} {vs:AS AV} (b:ģ v=some vs):∀c∈vs,∀id∈ā c,id∈refs1 v:=by
 intro c a id hi
 cases v<;>simp only[ģ,Option.some.injEq,reduceCtorEq] at b<;>subst b
 all_goals first
  |(simp only[cX] at a; subst a; exact hi)
  |(simp only[cX] at a; subst a; cases hi; done)
  |exact dN.2 ⟨c,a,hi⟩
def Rv {σ σ2:Type} {R:AN σ->AN σ2->Prop} {ty:TypeId} {a v:AV} {K:AS Blk->AN σ} {K2:AS Blk->AN σ2} (h0:R none none) (d:h2.length=h.length)
 (f:∀id∈refs1 a,lkB h2 id=lkB h id) (m:∀id∈refs1 v,lkB h2 id=lkB h id) (l:∀ups,(∀p∈ups,p.1∈refs1 a\/p.1∈refs1 v)->R (K (aps ups h)) (K2 (aps ups h2))):R (ph P h ty a v K) (ph P h2 ty a v K2):=by
 unfold ph
 split<;>try exact h0
 rename_i vs k
 split<;>try exact h0
 split<;>try exact h0
 ·rename_i id off;have e:=f id (by simp[refs1,ā]);rw[e]
  (repeat' split)<;>first
   |exact h0
   |exact l [(id,_)] fun p b=>.inl (by simp only[cX] at b; subst b; simp[refs1,ā])
 ·rename_i id g i off;have e:=f id (by simp[refs1,ā]);obtain⟨u,o,n,s⟩:=Qo (v:=v) d m
  have y:lkB (frz h2 v) id=lkB (frz h v) id:=by rw[o,n]; exact xO d e
  have x:vs.map (ñ h2)=vs.map (ñ h):=fp fun c r=>lf fun id hi=>m id (aa4 k c r id hi);rw[y,x]
  (repeat' split)<;>first
   |exact h0
   | (rw [o, n]
      refine l (u++[(id,_)]) (fun p b=>?_) |> fun q=>(by simpa only[ka,EZ] using q)
      rcases cR.1 b with b|b
      ·exact .inr (s p b)
      ·exact .inl (by simp only[cX] at b; subst b; simp[refs1,ā]))
 ·rename_i id g i j;have e:=f id (by simp[refs1,ā]);rw[e]
  (repeat' split)<;>first
   |exact h0
   |exact l [(id,_)] fun p b=>.inl (by simp only[cX] at b; subst b; simp[refs1,ā])
def YT:∀{ps:AS (Nat×AV)} {h h2:AS Blk},h2.length=h.length->(∀p∈ps,∀id∈refs1 p.2,lkB h2 id=lkB h id)->∃ups,frzA h ps=aps ups h/\frzA h2 ps=aps ups h2/\∀p∈ups,∃q∈ps,p.1∈refs1 q.2
 |[],_,_,_,_=>⟨[],rfl,rfl,by simp⟩
 |(i,v)::ps,h,h2,d,f=>by
  obtain⟨u,e,a,m⟩:=Qo (v:=v) d (f (i,v) (by simp));obtain⟨w,l,k,j⟩:=YT (ps:=ps) (h:=frz h v) (h2:=frz h2 v) (by rw[e,a,rN,rN,d]) (fun q c id hi=>by rw[e,a]; exact xO d (f q (by simp[c]) id hi));refine⟨u++w,by simp only[frzA]; rw[l,e,ka],by simp only[frzA]; rw[k,a,ka],fun p b=>?_⟩;rcases cR.1 b with b|b
  ·exact⟨(i,v),by simp,m p b⟩
  ·obtain⟨q,c,hi⟩:=j p b;exact⟨q,by simp[c],hi⟩
def aig {σ σ2:Type} {R:AN σ->AN σ2->Prop} {E:Env ρ} {o:Op} {nid:Nat} {eat:Bool} {K:AV->St->AN σ} {K2:AV->St->AN σ2} (h0:R none none) (U:cls E o=2) (V:Oq o=false) (k:h2.length=h.length) (heat:∀ty n ps,o=.buildSlice ty n ps->eat=false)
 (H:∀x∈o.operands.toList,ev t2 x=ev t x) (N:∀x∈o.operands.toList,∀id∈refs1 (ev t x),lkB h2 id=lkB h id)
 (C:∀v ups,(∀p∈ups,(p.1=nid/\û E.clone o=true)\/∃x∈o.operands.toList,p.1∈refs1 (ev t x))->R (K v {t:=t,h:=aps ups h}) (K2 v {t:=t2,h:=aps ups h2})) :
 R (opK P {t:=t,h:=h} nid eat o K) (opK P {t:=t2,h:=h2} nid eat o K2):=by
 cases o with
 |buildSlice ty n ps =>
  obtain rfl:=heat ty n ps rfl;have e:=acH (l:=ps.toList) (t:=t) (t2:=t2) fun x s=>H x (by simpa[Op.operands] using s)
  have Z:∀p∈ps.toList.map (fun p=>(p.1,ev t p.2)),∀id∈refs1 p.2,lkB h2 id=lkB h id:=fun p d=>by
   obtain⟨q,hq,rfl⟩:=dL.1 d;exact N q.2 (by simpa[Op.operands] using⟨q.1,by simpa using hq⟩)
  have hr:∀ty n,HL h2 ty n (ps.toList.map fun p=>(p.1,ev t p.2))=HL h ty n (ps.toList.map fun p=>(p.1,ev t p.2)):=fun ty n=>M9 Z;obtain⟨u,f1,f2,f3⟩:=YT k Z;simp only[opK,eatB,frTy,e,hr,f1,f2]
  (repeat' split)<;>first
   |exact h0
   | (refine C _ (u ++ [(nid, _)]) (fun p d => ?_) |> fun q => (by simpa only [ka, EZ] using q)
      rcases cR.1 d with d|d
      ·obtain⟨q,hq,hi⟩:=f3 p d;obtain⟨q',hq',rfl⟩:=dL.1 hq;exact .inr ⟨q'.2,by simpa[Op.operands] using⟨q'.1,by simpa using hq'⟩,hi⟩
      ·exact .inl ⟨by simp only[cX] at d; subst d; rfl,rfl⟩)
 |store ty a v =>
  have e1:=H a (by simp[Op.operands]);have e2:=H v (by simp[Op.operands]);have G:=N a (by simp[Op.operands]);have s2:=N v (by simp[Op.operands]);have ma:∀{id:Nat},id∈refs1 (ev t a)->∃x∈(Op.store ty a v).operands.toList,id∈refs1 (ev t x):=fun hi=>⟨a,by simp[Op.operands],hi⟩;have mv:∀{id:Nat},id∈refs1 (ev t v)->∃x∈(Op.store ty a v).operands.toList,id∈refs1 (ev t x):=fun hi=>⟨v,by simp[Op.operands],hi⟩;simp only[opK,e1,e2]
  cases eat with
  |false =>
   simp only;exact Rv h0 k G s2 fun ups T=>C _ ups fun p d=>.inr ((T p d).elim ma mv)
  |true =>
   simp only
   cases F:ev t v with
   |sub id g lo n =>
    rw[F] at s2 mv;have W:=s2 id (by simp[refs1,ā]);simp only[W]
    split<;>try exact h0
    split<;>try exact h0
    refine Rv h0 (by simp[Ï,k]) (fun j hj=>?_) (fun j hj=>?_) fun ups T=>C _ ((id,_)::ups) fun p d=>.inr ?_
    ·exact xO (ups:=[(id,_)]) k (G j hj)
    ·simp only[refs1,ā,cX] at hj;subst hj;exact xO (ups:=[(_,_)]) k W
    ·rcases cW.1 d with rfl|d
     ·exact mv (by simp[refs1,ā])
     ·rcases T p d with T|T
      ·exact ma T
      ·exact mv (by simpa[refs1,ā] using T)
   |_=>exact h0
 |mapUpdate ty m i x =>
  have e1:=H m (by simp[Op.operands]);have e2:=H i (by simp[Op.operands]);have W:=H x (by simp[Op.operands]);have G:=N m (by simp[Op.operands]);have Y:=N x (by simp[Op.operands]);obtain⟨u,f1,f2,f3⟩:=Qo (v:=ev t x) k Y;simp only[opK,e1,e2,W]
  split
  ·rename_i id s;rw[s] at G;unfold Ť;rw[G id (by simp[refs1,ā])]
   (repeat' split)<;>first
    |exact h0
    | (refine C _ [(id, _)] (fun p d => ?_) |> fun q => (by simpa only [EZ] using q)
       exact .inr ⟨m,by simp[Op.operands],by simp only[cX] at d; subst d; rw[s]; simp[refs1,ā]⟩)
  unfold ţ;rw[AI Y]
  split<;>try exact h0
  split<;>try exact h0
  rename_i id s;rw[s] at G;rw[G id (by simp[refs1,ā])]
  (repeat' split)<;>first
   |exact h0
   | (rw [f1, f2]
      refine C _ (u++[(id,_)]) (fun p d=>?_) |> fun q=>(by simpa only[ka,EZ] using q)
      rcases cR.1 d with d|d
      ·exact .inr ⟨x,by simp[Op.operands],f3 p d⟩
      ·exact .inr ⟨m,by simp[Op.operands],by simp only[cX] at d; subst d; rw[s]; simp[refs1,ā]⟩)
 |next x b =>
  have e:=H x (by simp[Op.operands]);have I:=N x (by simp[Op.operands]);simp only[opK,e]
  cases b with
  |false=>exact h0
  |true =>
  simp only;unfold PB
  split<;>try exact h0
  rename_i id F;rw[F] at I;rw[I id (by simp[refs1,ā])]
  split<;>try exact h0
  split
  ·exact C _ [(id,_)] fun p d=>.inr ⟨x,by simp[Op.operands],by simp only[cX] at d; subst d; rw[F]; simp[refs1,ā]⟩
  ·exact C _ [] (by simp)
 |insert ty m i x =>
  have e1:=H m (by simp[Op.operands]);have e2:=H i (by simp[Op.operands]);have W:=H x (by simp[Op.operands]);have G:=N m (by simp[Op.operands]);have Y:=N x (by simp[Op.operands]);obtain⟨u,f1,f2,f3⟩:=Qo (v:=ev t x) k Y;simp only[opK,e1,e2,W]
  split
  ·rename_i id s;rw[s] at G;unfold Ť;rw[G id (by simp[refs1,ā])]
   (repeat' split)<;>first
    |exact h0
    | (refine C _ [(id, _)] (fun p d => ?_) |> fun q => (by simpa only [EZ] using q)
       exact .inr ⟨m,by simp[Op.operands],by simp only[cX] at d; subst d; rw[s]; simp[refs1,ā]⟩)
  unfold ţ;rw[AI Y]
  split<;>try exact h0
  split<;>try exact h0
  rename_i id s;rw[s] at G;rw[G id (by simp[refs1,ā])]
  (repeat' split)<;>first
   |exact h0
   | (rw [f1, f2]
      refine C _ (u++[(id,_)]) (fun p d=>?_) |> fun q=>(by simpa only[ka,EZ] using q)
      rcases cR.1 d with d|d
      ·exact .inr ⟨x,by simp[Op.operands],f3 p d⟩
      ·exact .inr ⟨m,by simp[Op.operands],by simp only[cX] at d; subst d; rw[s]; simp[refs1,ā]⟩)
 |call c =>
  obtain⟨O,args,tys⟩:=c
  cases O with
  |builtin b =>
   have e:=Il (l:=args.toList) (t:=t) (t2:=t2) fun x s=>H x (by simpa[Op.operands,Call.operands] using s);have L:∀x∈args.toList,∀id∈refs1 (ev t x),lkB h2 id=lkB h id:=fun x s=>N x (by simpa[Op.operands,Call.operands] using s)
   have A:∀x∈args.toList,x∈(Op.call ⟨.builtin b,args,tys⟩).operands.toList:=fun x s=>by simpa[Op.operands,Call.operands] using s
   generalize hl:args.toList=l at e L A;generalize s:tys.toList=m
   cases b with
   |append =>
    rcases l with _|⟨x,_|⟨y,_|⟨z,l⟩⟩⟩<;>rcases m with _|⟨ty,_|⟨ty',_|⟨ty'',m⟩⟩⟩<;>simp only[opK,hl,s]<;>try exact h0
    simp only[eM,List.cons.injEq,fw,and_true] at e;rw[e.1,e.2];have I:=L x (by simp);have sy:=L y (by simp);have S:∀v B,R (K v {t:=t,h:=ì h nid B}) (K2 v {t:=t2,h:=ì h2 nid B}):=fun v B=>C v [(nid,B)] fun p d=>.inl ⟨by simp only[cX] at d; subst d; rfl,rfl⟩
    (repeat' split)<;>first
     |exact h0
     | (unfold tV
        simp only[RC sy]
        split<;>try exact h0
        split<;>try exact h0
        split<;>try exact h0
        split<;>try exact h0
        split<;>try exact h0
        ·split<;>first|exact h0|exact S _ _
        ·rename_i id g F;rw[F] at I;rw[I id (by simp[refs1,ā])]
         (repeat' split)<;>first
          |exact h0
          |exact C _ [(id,_)] fun p d=>.inr ⟨x,A x (by simp),by simp only[cX] at d; subst d; rw[F]; simp[refs1,ā]⟩)
     | (rename_i J g2 hdp
        rw[hdp] at sy;have my:∃q∈(Op.call ⟨.builtin .append,args,tys⟩).operands.toList,J∈refs1 (ev t q):=⟨y,A y (by simp),by rw[hdp]; simp[refs1,ā]⟩;unfold QG;rw[sy J (by simp[refs1,ā])]
        split<;>try exact h0
        split<;>try exact h0
        split<;>try exact h0
        split<;>try exact h0
        split<;>try exact h0
        ·split<;>first
          |exact h0
          |exact C _ [(J,_),(nid,_)] fun p d=>by
             simp only[cW,ff,or_false] at d;rcases d with rfl|rfl
             ·exact .inr my
             ·exact .inl ⟨rfl,rfl⟩
        ·rename_i id g F;rw[F] at I;have mx:∃q∈(Op.call ⟨.builtin .append,args,tys⟩).operands.toList,id∈refs1 (ev t q):=⟨x,A x (by simp),by rw[F]; simp[refs1,ā]⟩;rw[I id (by simp[refs1,ā])]
         (repeat' split)<;>first
          |exact h0
          |exact C _ [(J,_),(id,_)] fun p d=>by
             simp only[cW,ff,or_false] at d;rcases d with rfl|rfl
             ·exact .inr my
             ·exact .inr mx)
     | (unfold AD
        (repeat' split)<;>first|exact h0|exact S _ _)
   |clear =>
    rcases l with _|⟨x,_|⟨y,l⟩⟩<;>rcases m with _|⟨ty,_|⟨ty',m⟩⟩<;>simp only[opK,hl,s]<;>try exact h0
    simp only[eM,List.cons.injEq,fw,and_true] at e;rw[e];have I:=L x (by simp)
    split<;>try exact h0
    unfold Dw
    split<;>try exact h0
    ·exact C _ [] (by simp)
    ·rename_i id g lo n _ F _;rw[F] at I;rw[I id (by simp[refs1,ā])]
     (repeat' split)<;>first
      |exact h0
      |exact C _ [(id,_)] fun p d=>.inr ⟨x,A x (by simp),by simp only[cX] at d; subst d; rw[F]; simp[refs1,ā]⟩
   |_=>simp[cls] at U
  |value f=>cases V
  |invoke r m=>simp[cls] at U
 |_=>simp[cls] at U
end
end Go.Am
end

noncomputable section
namespace Go.Am
variable [ë] [Ð]
section
variable {ρ:Type} {P:Program} {h h2:AS Blk} {t t2:AS AV}
def Vh {ty:Ty} {a:AV} (b:mH h h2 a):afo h2 ty a=afo h ty a:=by
 have d:XJ h2 a=XJ h a:=AI b.one
 cases ty with
 |ptr u =>
  cases a with
  |box id off =>
   cases off with
   |zero =>
    have e:lkB h2 id=lkB h id:=b.one id (by simp[refs1,ā]);simp only[afo,e]
    cases f:lkB h id with
    |cells cs =>
     simp only
     have:cs.map (ñ h2)=cs.map (ñ h):=fp fun c j=>lf fun i hi=>b i (by
      simp only[refs2,cR,dN]
      exact .inr ⟨id,by simp[refs1,ā],by rw[f]; exact⟨c,j,hi⟩⟩)
     rw[this]
    |_=>rfl
   |succ n=>rfl
  |eptr k x off=>cases off<;>rfl
  |_=>rfl
 |_=>cases a with
  |dp id g =>
   have e:lkB h2 id=lkB h id:=b.one id (by simp[refs1,ā]);simp only[afo,e]
  |_=>simp only[afo,d]
def OX:∀{l:AS Ty} {ty:Ty} {as:AS AV},(∀a∈as,mH h h2 a)->QZ h2 l ty as=QZ h l ty as
 |[],ty,[],_=>rfl
 |[],ty,[a],c=>by simp only[QZ]; exact Vh (c a (by simp))
 |[],ty,_::_::_,_=>rfl
 |u::l,ty,[],_=>rfl
 |u::l,ty,a::as,c=>by
  simp only[QZ];rw[Vh (c a (by simp)),OX fun b hb=>c b (by simp[hb])]
def OY {l:AS Ty} {as:AS AV} (b:∀a∈as,mH h h2 a):DG h2 l as=DG h l as:=by
 cases l with
 |nil=>rfl
 |cons ty l=>exact OX b
def WS {E:Env ρ} {o:Op} (a:∀x∈o.operands.toList,ev t2 x=ev t x):OH E t2 o=OH E t o:=by
 unfold OH
 split
 ·rename_i s args tys;rw[a (.tmp s) (by simp[Op.operands,Call.operands])]
 ·rfl
def KS {E:Env ρ} {o:Op} (c:∀x∈o.operands.toList,ev t2 x=ev t x) (d:1<=cls E o->∀x∈o.operands.toList,mH h h2 (ev t x)) :
 kM E {t:=t2,h:=h2} o=kM E {t:=t,h:=h} o:=by
 unfold kM
 split
 ·rename_i e;have a:1<=cls E o:=eA e
  have f:(o.operands.toList.all fun x=>(refs2 h2 (ev t2 x)).all fun id=>!adp (lkB h2 id))=o.operands.toList.all fun x=>(refs2 h (ev t x)).all fun id=>!adp (lkB h id):=by
   rw[d8];simp only[dw];refine forall_congr' fun x=>forall_congr' fun b=>?_;rw[c x b,(d a x b).refs]
   exact forall_congr' fun id=>forall_congr' fun hi=>by rw[d a x b id hi]
  exact congr (congrArg and f) (WS c)
 ·rfl
def nO {E:Env ρ} {o:Op} (a:1<=cls E o) {id:Nat}:id∈ya E {t:=t,h:=h} o↔∃x∈o.operands.toList,id∈refs2 h (ev t x):=by
 unfold ya;have:Nat.ble 1 (cls E o)=true:=Nat.ble_eq_true_of_le a;simp only[this,List.mem_flatMap]
def C2 {E:Env ρ} {o:Op} (a:cls E o=0) {S:St}:ya E S o=[]:=by
 unfold ya; rw[a]
def Loc (E:Env ρ) (o:Op) (nid:Nat) (t:AS AV) (h:AS Blk) (t2:AS AV) (h2:AS Blk) (z a:(AV->St->AN ρ)->AN ρ):Prop :=
 ∃φ:AN (AV×AS (Nat×Blk)),(∀r,φ=some r->∀p∈r.2,(p.1=nid/\û E.clone o=true)\/(cls E o=2/\p.1∈ya E {t:=t,h:=h} o)) /\
  (∀K,z K=φ.bind fun r=>K r.1 {t:=t,h:=aps r.2 h})/\∀K,a K=φ.bind fun r=>K r.1 {t:=t2,h:=aps r.2 h2}
def Loc.no {E:Env ρ} {o:Op} {nid:Nat} {z b:(AV->St->AN ρ)->AN ρ} (c:∀K,z K=none) (a:∀K,b K=none):Loc E o nid t h t2 h2 z b :=
 ⟨none,by simp,fun K=>by rw[c]; rfl,fun K=>by rw[a]; rfl⟩
def aea {σ σ2:Type} {R:AN σ->AN σ2->Prop} {g nid:Nat} {fz:Bool} {x:AV} {K:AV->St->AN σ} {K2:AV->St->AN σ2} (h0:R none none) (c:∀id∈refs1 x,lkB h2 id=lkB h id)
 (a:∀v b,R (K v {t:=t,h:=ap nid b h}) (K2 v {t:=t2,h:=ap nid b h2})):R (uw P g fz {t:=t,h:=h} nid x K) (uw P g fz {t:=t2,h:=h2} nid x K2):=by
 simp only[uw,RB c]
 (repeat' split)<;>first|exact h0|exact a _ none|exact a _ (some _)
def efU (nid:Nat):AN Blk->AS (Nat×Blk)
 |none=>[]
 |some B=>[(nid,B)]
def Zz {nid:Nat} {a:AN Blk}:ap nid a h=aps (efU nid a) h:=by cases a<;>rfl
def ah7 {E:Env ρ} {call:AS Nat->Bool->Nat->AS AV->AS Blk->(AV->AS Blk->AN ρ)->AN ρ} {fid:Nat} {path:AS Nat} {nid:Nat} {o:Oper}
 (j:afc E call) (I:cls E o.op<=2) (hlen:h2.length=h.length) (hx:∀x∈o.op.operands.toList,ev t2 x=ev t x) (hs:1<=cls E o.op->∀x∈o.op.operands.toList,mH h h2 (ev t x)) :
 Loc E o.op nid t h t2 h2 (jo E call fid path true {t:=t,h:=h} nid o) (jo E call fid path true {t:=t2,h:=h2} nid o):=by
 have m:=KS hx hs
 cases J:kM E {t:=t,h:=h} o.op with
 |false=>exact .no (fun K=>by simp[iC,J]) (fun K=>by simp[iC,m,J])
 |true =>
  rw[J] at m
  have plain:(∀f args tys,o.op≠.call ⟨.value f,args,tys⟩)->Loc E o.op nid t h t2 h2 (jo E call fid path true {t:=t,h:=h} nid o) (jo E call fid path true {t:=t2,h:=h2} nid o):=by
   intro hno
   have A:∀S:St,kM E S o.op=true->∀K,jo E call fid path true S nid o K=opK E.P S nid (KQ E true fid o) o.op K:=fun S Y K=>by
    simp only[iC]
    try simp only[Fs]
    simp only[Y,dM,fT,gI]
   have W:Oq o.op=false:=by
    cases H:o.op<;>try rfl
    rename_i c;obtain⟨f,args,tys⟩:=c
    cases f<;>first|rfl|exact absurd H (hno _ _ _)
   have fin:(∃φ:AN (AV×AS (Nat×Blk)),(∀r,φ=some r->∀p∈r.2,(p.1=nid/\û E.clone o.op=true)\/(cls E o.op=2/\p.1∈ya E {t:=t,h:=h} o.op)) /\
    opK E.P {t:=t,h:=h} nid (KQ E true fid o) o.op (fun v S=>some (v,S))=φ.map (fun r=>(r.1,({t:=t,h:=aps r.2 h}:St)))/\opK E.P {t:=t2,h:=h2} nid (KQ E true fid o) o.op (fun v S=>some (v,S))=φ.map fun r=>(r.1,({t:=t2,h:=aps r.2 h2}:St))) ->
    Loc E o.op nid t h t2 h2 (jo E call fid path true {t:=t,h:=h} nid o) (jo E call fid path true {t:=t2,h:=h2} nid o):=by
    rintro⟨φ,h1,h2',h3⟩;refine⟨φ,h1,fun K=>?_,fun K=>?_⟩
    ·rw[A _ J,Pu]; unfold opR; rw[h2']; cases φ<;>rfl
    ·rw[A _ m,Pu]; unfold opR; rw[h3]; cases φ<;>rfl
   apply fin
   by_cases Z:cls E o.op=2
   ·refine aig (P:=E.P) (E:=E) (o:=o.op) (nid:=nid) (σ:=AV×St) (σ2:=AV×St) (K:=fun v S=>some (v,S)) (K2:=fun v S=>some (v,S))
     (R:=fun x y=>∃φ:AN (AV×AS (Nat×Blk)),(∀r,φ=some r->∀p∈r.2,(p.1=nid/\û E.clone o.op=true)\/(cls E o.op=2/\p.1∈ya E {t:=t,h:=h} o.op))/\x=φ.map (fun r=>(r.1,({t:=t,h:=aps r.2 h}:St)))/\y=φ.map fun r=>(r.1,({t:=t2,h:=aps r.2 h2}:St)))
     ⟨none,by simp,rfl,rfl⟩ Z W hlen (fun ty n ps H=>by rw[KQ,H]; rfl) hx (fun x C=>(hs (by omega) x C).one) fun v ups hu=>⟨some (v,ups),fun r G p k=>?_,rfl,rfl⟩
    cases G;rcases hu p k with hu|⟨x,C,hi⟩
    ·exact .inl hu
    ·exact .inr ⟨Z,(nO (by omega)).2 ⟨x,C,by simp only[refs2,cR]; exact .inl hi⟩⟩
   ·have hea:KQ E true fid o=false:=by
     unfold KQ
     cases H:o.op<;>first|rfl|(exfalso; apply Z; rw[H]; rfl)
    rw[hea]
    refine ahz (P:=E.P) (E:=E) (o:=o.op) (nid:=nid) (σ:=AV×St) (σ2:=AV×St) (K:=fun v S=>some (v,S)) (K2:=fun v S=>some (v,S))
     (R:=fun x y=>∃φ:AN (AV×AS (Nat×Blk)),(∀r,φ=some r->∀p∈r.2,(p.1=nid/\û E.clone o.op=true)\/(cls E o.op=2/\p.1∈ya E {t:=t,h:=h} o.op))/\x=φ.map (fun r=>(r.1,({t:=t,h:=aps r.2 h}:St)))/\y=φ.map fun r=>(r.1,({t:=t2,h:=aps r.2 h2}:St)))
     ⟨none,by simp,rfl,rfl⟩ (by omega) W hx (fun h1 x C=>(hs (by omega) x C).one) fun v ef hef=>⟨some (v,efU nid ef),fun r G p k=>?_,by rw[Zz]; rfl,by rw[Zz]; rfl⟩
    cases G
    cases ef with
    |none=>cases k
    |some B =>
     simp only[efU,cX] at k;subst k;exact .inl ⟨rfl,hef rfl⟩
  cases H:o.op with
  |call c =>
   obtain⟨f,args,tys⟩:=c
   cases f with
   |value f =>
    cases f with
    |func g =>
     rw[H] at hx hs I;have hxa:∀x∈args.toList,ev t2 x=ev t x:=fun x C=>hx x (by simp[Op.operands,Call.operands]; exact .inr (by simpa using C))
     have e:∀x∈args.toList,x∈(Op.call ⟨.value (.func g),args,tys⟩).operands.toList:=fun x C=>by simp[Op.operands,Call.operands]; exact .inr (by simpa using C)
     have he:=Il hxa
     cases hc:E.clone g with
     |true =>
      have hcls:cls E (.call ⟨.value (.func g),args,tys⟩)=1:=by simp[cls,hc]
      have A:∀(S:St),kM E S o.op=true->∀K,jo E call fid path true S nid o K=match args.toList with
       |[x]=>uw E.P g (E.eat fid (o.dst.getD 0)) S nid (ev S.t x) K
       |_=>none:=fun S Y K=>by
       simp only[iC]
       try simp only[Fs]
       simp only[Y,dM,fT];rw[H];simp only[ev,hc,WF,Bool.and_self];rfl
      generalize hl:args.toList=l at A he hxa e;rcases l with _|⟨x,_|⟨y,l⟩⟩
      ·exact .no (fun K=>A _ J K) (fun K=>A _ m K)
      ·have hsx:=(hs (by omega) x (e x (by simp))).one;have e1:=hxa x (by simp)
       obtain⟨φ,h1,h2',h3⟩:=aea (P:=E.P) (g:=g) (fz:=E.eat fid (o.dst.getD 0)) (nid:=nid) (t:=t) (t2:=t2) (σ:=AV×St) (σ2:=AV×St) (K:=fun v S=>some (v,S)) (K2:=fun v S=>some (v,S))
        (R:=fun x y=>∃φ:AN (AV×AS (Nat×Blk)),(∀r,φ=some r->∀p∈r.2,p.1=nid)/\x=φ.map (fun r=>(r.1,({t:=t,h:=aps r.2 h}:St)))/\y=φ.map fun r=>(r.1,{t:=t2,h:=aps r.2 h2}))
        ⟨none,by simp,rfl,rfl⟩ hsx fun v ef=>⟨some (v,efU nid ef),fun r G p k=>by
         cases G
         cases ef with
         |none=>cases k
         |some B=>simp only[efU,cX] at k; rw[k],by rw[Zz]; rfl,by rw[Zz]; rfl⟩
       refine⟨φ,fun r G p k=>.inl ⟨h1 r G p k,by simpa[û] using hc⟩,fun K=>?_,fun K=>?_⟩
       ·rw[A _ J];simp only;rw[ES,h2']
        cases φ<;>rfl
       ·rw[A _ m];simp only[e1];rw[ES,h3]
        cases φ<;>rfl
      ·exact .no (fun K=>A _ J K) (fun K=>A _ m K)
     |false =>
      have A:∀(S:St),kM E S o.op=true->∀K,jo E call fid path true S nid o K=call path true g (args.toList.map (ev S.t)) S.h fun v h=>K v {t:=S.t,h:=h}:=fun S Y K=>by
       simp only[iC]
       try simp only[Fs]
       simp only[Y,dM,fT];rw[H];simp only[ev,hc,WF,gI,fD,dv]
      rcases j with j|⟨j,hse,hce⟩
      ·exact .no (fun K=>by rw[A _ J]; exact j _ _ _ _ _ _) (fun K=>by rw[A _ m]; exact j _ _ _ _ _ _)
      cases k:E.pure g with
      |none =>
       have h1c:1<=cls E (.call ⟨.value (.func g),args,tys⟩):=by simp only[cls,hc,k]; cases E.sort g<;>cases E.compact g<;>simp
       have row:∀(f:AS Blk->AV->(AV->AS Blk->AN ρ)->AN ρ),(∀S K,kM E S o.op=true->jo E call fid path true S nid o K=match args.toList.map (ev S.t) with|[x]=>f S.h x fun v h=>K v {t:=S.t,h:=h}|_=>none)->cls E (.call ⟨.value (.func g),args,tys⟩)=2 ->
        (∀x,(∀id∈refs1 x,lkB h2 id=lkB h id)->∃φ:AN (AV×AS (Nat×Blk)),(∀r,φ=some r->∀p∈r.2,p.1∈refs1 x)/\(∀K,f h x K=φ.bind fun r=>K r.1 (aps r.2 h))/\∀K,f h2 x K=φ.bind fun r=>K r.1 (aps r.2 h2)) ->
        Loc E (.call ⟨.value (.func g),args,tys⟩) nid t h t2 h2 (jo E call fid path true {t:=t,h:=h} nid o) (jo E call fid path true {t:=t2,h:=h2} nid o):=by
        intro f L Z hloc;generalize hl:args.toList=l at L he e;rcases l with _|⟨x,_|⟨y,l⟩⟩
        ·exact .no (fun K=>L _ K J) (fun K=>L _ K m)
        ·obtain⟨φ,q1,q2,q3⟩:=hloc (ev t x) (hs h1c x (e x (by simp))).one;refine⟨φ,fun r G p k=>.inr ⟨Z,(nO h1c).2 ⟨x,e x (by simp),by simp only[refs2,cR]; exact .inl (q1 r G p k)⟩⟩,fun K=>?_,fun K=>?_⟩
         ·rw[L _ K J];exact q2 _
         ·rw[L _ K m];simp only[he];exact q3 _
        ·exact .no (fun K=>L _ K J) (fun K=>L _ K m)
       cases T:E.sort g with
       |true =>
        refine row O5 (fun S K Y=>(A S Y K).trans (hse g k T path true _ S.h _)) (by simp[cls,hc,k,T]) fun x hx1=>?_;unfold O5
        cases x with
        |own id g =>
         have e3:=hx1 id (by simp[refs1,ā]);simp only[e3]
         cases lkB h id with
         |row ty g' fz xs =>
          cases fz<;>simp only
          ·split
           ·split
            ·split
             ·exact⟨some (_,[(id,_)]),by simp[refs1,ā],fun K=>rfl,fun K=>rfl⟩
             ·exact⟨none,by simp,fun K=>rfl,fun K=>rfl⟩
            ·exact⟨none,by simp,fun K=>rfl,fun K=>rfl⟩
           ·exact⟨none,by simp,fun K=>rfl,fun K=>rfl⟩
          ·exact⟨none,by simp,fun K=>rfl,fun K=>rfl⟩
         |_=>exact⟨none,by simp,fun K=>rfl,fun K=>rfl⟩
        |nils=>exact⟨some (_,[]),by simp,fun K=>rfl,fun K=>rfl⟩
        |_=>exact⟨none,by simp,fun K=>rfl,fun K=>rfl⟩
       |false =>
        cases hco:E.compact g with
        |true =>
         refine row nW (fun S K Y=>(A S Y K).trans (hce g k T hco path true _ S.h _)) (by simp[cls,hc,k,T,hco]) fun x hx1=>?_;unfold nW
         cases x with
         |own id g =>
          have e3:=hx1 id (by simp[refs1,ā]);simp only[e3]
          cases lkB h id with
          |row ty g' fz xs =>
           cases fz<;>simp only
           ·split
            ·split
             ·split
              ·exact⟨some (_,[(id,_)]),by simp[refs1,ā],fun K=>rfl,fun K=>rfl⟩
              ·exact⟨none,by simp,fun K=>rfl,fun K=>rfl⟩
             ·exact⟨none,by simp,fun K=>rfl,fun K=>rfl⟩
            ·exact⟨none,by simp,fun K=>rfl,fun K=>rfl⟩
           ·exact⟨none,by simp,fun K=>rfl,fun K=>rfl⟩
          |_=>exact⟨none,by simp,fun K=>rfl,fun K=>rfl⟩
         |nils=>exact⟨some (_,[]),by simp,fun K=>rfl,fun K=>rfl⟩
         |_=>exact⟨none,by simp,fun K=>rfl,fun K=>rfl⟩
        |false=>simp[cls,hc,k,T,hco] at I
      |some p =>
       have h1c:1<=cls E (.call ⟨.value (.func g),args,tys⟩):=by simp only[cls,hc,k]; cases E.fz g<;>simp
       have hsa:∀a∈args.toList.map (ev t),mH h h2 a:=fun a ha=>by
        obtain⟨x,C,rfl⟩:=dL.1 ha;exact hs h1c x (e x C)
       obtain⟨u,f1,f2,f3⟩:=Qq (cs:=(args.toList.map (ev t)).flatMap kO) hlen fun c hcm id hi=>by
        obtain⟨a,ha,z⟩:=dN.1 hcm;refine(hsa a ha).one id ?_
        cases a<;>first
         |(simp only[kO,cX] at z; subst z; exact hi)
         |(simp only[kO,cX] at z; subst z; cases hi; done)
         |exact dN.2 ⟨c,z,hi⟩
       have f3':∀q∈u,∃x∈args.toList,q.1∈refs2 h (ev t x):=fun q hq=>by
        obtain⟨c,hcm,hi⟩:=f3 q hq;obtain⟨a,ha,z⟩:=dN.1 hcm;obtain⟨x,C,rfl⟩:=dL.1 ha;refine⟨x,C,?_⟩;simp only[refs2,cR];left;generalize ev t x=a at z
        cases a<;>first
         |(simp only[kO,cX] at z; subst z; exact hi)
         |(simp only[kO,cX] at z; subst z; cases hi; done)
         |exact dN.2 ⟨c,z,hi⟩
       have U:∀(b:Bool) (h':AS Blk),DG h' p.ts (args.toList.map (ev t))=DG h p.ts (args.toList.map (ev t))->xZ h' ((args.toList.map (ev t)).flatMap kO)=aps u h'->∀(K:AV->AS Blk->AN ρ),
        Pc b p h' (args.toList.map (ev t)) K=(match DG h p.ts (args.toList.map (ev t)) with
        |some x=>(p.F x).bind fun y=>match HS (Vt p.rs y) with
         |true=>some (Vt p.rs y,[])
         |false=>match (args.toList.map (ev t)).all (fun a=>!Ln a) with
          |true=>some (Vt p.rs y,[])
          |false=>match b||!(args.toList.map (ev t)).all acy with
           |true=>none
           |false=>some (Vt p.rs y,u)
        |none=>none).bind fun r=>K r.1 (aps r.2 h'):=fun b h' ha L K=>by
        unfold Pc Ä;rw[ha,L]
        cases DG h p.ts (args.toList.map (ev t)) with
        |none=>rfl
        |some x =>
         simp only
         cases p.F x with
         |none=>rfl
         |some y =>
          simp only[ez]
          cases HS (Vt p.rs y) with
          |true=>rfl
          |false=>cases(args.toList.map (ev t)).all (fun a=>!Ln a) with
           |true=>rfl
           |false=>cases b||!(args.toList.map (ev t)).all acy<;>rfl
       refine⟨_,?_,fun K=>(A _ J K).trans ((j g p k path true _ h _).trans (U (true&&!E.fz g) h rfl f1 _)),fun K=>(A _ m K).trans (by simp only[he]; exact(j g p k path true _ h2 _).trans (U (true&&!E.fz g) h2 (OY hsa) f2 _))⟩;intro r d q hq
       have hcase:r.2=[]\/(E.fz g=true/\r.2=u):=by
        cases hA:DG h p.ts (args.toList.map (ev t)) with
        |none=>rw[hA] at d; cases d
        |some x =>
         rw[hA] at d;simp only at d
         cases hF:p.F x with
         |none=>rw[hF] at d; cases d
         |some y =>
          rw[hF] at d;simp only[ez] at d
          split at d
          ·cases d; exact .inl rfl
          ·split at d
           ·cases d; exact .inl rfl
           ·split at d
            ·cases d
            ·rename_i hb;cases d;simp only[eJ,gk,fc] at hb;exact .inr ⟨hb.1,rfl⟩
       rcases hcase with hz|⟨hfz,hz⟩
       ·rw[hz] at hq; cases hq
       ·rw[hz] at hq;obtain⟨x,C,hi⟩:=f3' q hq;exact .inr ⟨by simp[cls,hc,k,hfz],(nO h1c).2 ⟨x,e x C,hi⟩⟩
    |tmp s =>
     rw[H] at hx hs I
     obtain⟨g,hg⟩:∃g,E.hint s=some g:=by
      cases hh:E.hint s with
      |none=>simp[cls,hh] at I
      |some g=>exact⟨g,rfl⟩
     have hpf:(E.pure g).isSome=true/\E.fz g=false:=by
      simp only[cls,hg] at I
      split at I
      ·rename_i hb; simpa using hb
      ·omega
     obtain⟨hpg,hfz⟩:=hpf;obtain⟨p,k⟩:=gG.1 hpg
     have hcls:cls E (.call ⟨.value (.tmp s),args,tys⟩)=1:=by simp[cls,hg,k,hfz]
     have e:∀x∈args.toList,x∈(Op.call ⟨.value (.tmp s),args,tys⟩).operands.toList:=fun x C=>by simp[Op.operands,Call.operands]; exact .inr (by simpa using C)
     have hms:Operand.tmp s∈(Op.call ⟨.value (.tmp s),args,tys⟩).operands.toList:=by simp[Op.operands,Call.operands]
     have he:=Il fun x C=>hx x (e x C)
     have V:OH E t (.call ⟨.value (.tmp s),args,tys⟩)=true:=by
      have h1:=J;unfold kM at h1;rw[H] at h1
      have hb1:Nat.ble 1 (cls E (.call ⟨.value (.tmp s),args,tys⟩))=true:=by rw[hcls]; rfl
      simp only[hb1,cM] at h1;exact h1.2
     simp only[OH,hg] at V
     split at V<;>try (cases V; done)
     rename_i g' O N hfn;simp only[cM,dw] at V;obtain⟨hgg,hna,hnb⟩:=V;have hgg:g'=g:=cZ hgg;subst hgg;have hfn2:=(hx _ hms).trans hfn
     have A:∀(S:St),kM E S o.op=true->ev S.t (.tmp s)=.fn (.func g') O N->∀K,jo E call fid path true S nid o K=call path true g' (O++(args.toList.map (ev S.t)++N)) S.h fun v h=>K v {t:=S.t,h:=h}:=fun S Y hSf K=>by
      simp only[iC]
      try simp only[Fs]
      simp only[Y,dM,fT];rw[H];simp only[hSf,WF,fT]
     rcases j with j|⟨j,hse,hce⟩
     ·exact .no (fun K=>by rw[A _ J hfn]; exact j _ _ _ _ _ _) (fun K=>by rw[A _ m hfn2]; exact j _ _ _ _ _ _)
     have hcap:∀v,(v∈O\/v∈N)->aiq v=true->mH h h2 v:=fun v hv hn id hi=>by
      refine hs (by omega) _ hms id ?_;rw[hfn]
      have e1:Go.Am.refs1 v=ab2 v:=by cases v<;>first|rfl|cases hn
      simp only[refs2,cR,dN,e1] at hi ⊢
      have hsub:∀i,i∈ab2 v->i∈Go.Am.refs1 (.fn (.func g') O N):=fun i hi=>by
       simp only[Go.Am.refs1,cR,dN];exact hv.imp (fun h=>⟨v,h,hi⟩) fun h=>⟨v,h,hi⟩
      rcases hi with hi|⟨i,hi,q⟩
      ·exact .inl (hsub _ hi)
      ·exact .inr ⟨i,hsub _ hi,q⟩
     have hsa:∀a∈O++(args.toList.map (ev t)++N),mH h h2 a:=fun a ha=>by
      rcases cR.1 ha with ha|ha
      ·exact hcap a (.inl ha) (hna a ha)
      ·rcases cR.1 ha with ha|ha
       ·obtain⟨x,C,rfl⟩:=dL.1 ha;exact hs (by omega) x (e x C)
       ·exact hcap a (.inr ha) (hnb a ha)
     have U:∀(h':AS Blk),DG h' p.ts (O++(args.toList.map (ev t)++N))=DG h p.ts (O++(args.toList.map (ev t)++N))->∀(K:AV->AS Blk->AN ρ),
      Pc (true&&!E.fz g') p h' (O++(args.toList.map (ev t)++N)) K=(match DG h p.ts (O++(args.toList.map (ev t)++N)) with
      |some x=>(p.F x).bind fun y=>match HS (Vt p.rs y) with
       |true=>some (Vt p.rs y,([]:AS (Nat×Blk)))
       |false=>match (O++(args.toList.map (ev t)++N)).all (fun a=>!Ln a) with
        |true=>some (Vt p.rs y,[])
        |false=>none
      |none=>none).bind fun r=>K r.1 (aps r.2 h'):=fun h' ha K=>by
      unfold Pc Ä;rw[ha,hfz]
      cases DG h p.ts (O++(args.toList.map (ev t)++N)) with
      |none=>rfl
      |some x =>
       simp only
       cases p.F x with
       |none=>rfl
       |some y =>
        simp only[ez]
        cases HS (Vt p.rs y) with
        |true=>rfl
        |false=>cases(O++(args.toList.map (ev t)++N)).all (fun a=>!Ln a)<;>rfl
     refine⟨_,?_,fun K=>(A _ J hfn K).trans ((j g' p k path true _ h _).trans (U h rfl _)),fun K=>(A _ m hfn2 K).trans (by simp only[he]; exact(j g' p k path true _ h2 _).trans (U h2 (OY hsa) _))⟩;intro r d q hq;exfalso
     cases hA:DG h p.ts (O++(args.toList.map (ev t)++N)) with
     |none=>rw[hA] at d; cases d
     |some x =>
      rw[hA] at d;simp only at d
      cases hF:p.F x with
      |none=>rw[hF] at d; cases d
      |some y =>
       rw[hF] at d;simp only[ez] at d
       split at d
       ·cases d; cases hq
       ·split at d<;>cases d
        cases hq
    |_=>rw[H] at I; simp[cls] at I
   |_=>exact H▸plain fun _ _ _ L=>by rw[H] at L; cases L
  |_=>exact H▸plain fun _ _ _ L=>by rw[H] at L; cases L
def ah0 {l:AS Operand} (b:∀s∈MZ l,lk t2 s=lk t s):∀x∈l,ev t2 x=ev t x:=by
 induction l with
 |nil=>intro x a; cases a
 |cons y l c =>
  intro x a;rcases cW.1 a with rfl|a
  ·cases x with
   |tmp i=>exact b i (by simp[MZ])
   |_=>rfl
  ·refine c (fun s d=>b s ?_) x a
   cases y<;>simp[MZ,d]
def XB:∀(t:AS AV) {d b:Nat} (v a:AV),d≠b->upd (upd t d v) b a=upd (upd t b a) d v
 |[],_,_,_,_,_=>rfl
 |_::_,0,0,_,_,h=>absurd rfl h
 |_::_,0,_+1,_,_,_=>rfl
 |_::_,_+1,0,_,_,_=>rfl
 |x::t,d+1,b+1,v,a,h=>by simp only[Rk,Rl,Rj]; rw[XB t v a (by omega)]
def Rn:∀(t:AS Blk) {d b:Nat} (v a:Blk),d≠b->ì (ì t d v) b a=ì (ì t b a) d v
 |[],_,_,_,_,_=>rfl
 |_::_,0,0,_,_,h=>absurd rfl h
 |_::_,0,_+1,_,_,_=>rfl
 |_::_,_+1,0,_,_,_=>rfl
 |x::t,d+1,b+1,v,a,h=>by simp only[Fc,Fe,E9]; rw[Rn t v a (by omega)]
def HK {b a:AN Nat} (hd:∀x,b=some x->a≠some x) (d c:AV):õ (õ t b d) a c=õ (õ t a c) b d:=by
 cases b with
 |none=>rfl
 |some x=>cases a with
  |none=>rfl
  |some y=>exact XB t d c fun h=>hd x rfl (by rw[h])
def uU {d:AN Nat} {s:Nat} (hd:d≠some s) (v:AV):lk (õ t d v) s=lk t s:=by
 cases d with
 |none=>rfl
 |some x =>
  simp only[õ,adf];rw[if_neg];rintro⟨rfl,_⟩;exact hd rfl
def Zy:∀{u v:AS (Nat×Blk)} {h:AS Blk},(∀p∈u,∀q∈v,p.1≠q.1)->aps v (aps u h)=aps u (aps v h)
 |[],_,_,_=>rfl
 |p::u,v,h,b=>by
  show aps v (aps u (ì h p.1 p.2))=aps u (ì (aps v h) p.1 p.2);rw[Zy fun q a=>b q (by simp[a])];congr 1
  have:∀(v:AS (Nat×Blk)) (h:AS Blk),(∀q∈v,p.1≠q.1)->aps v (ì h p.1 p.2)=ì (aps v h) p.1 p.2:=by
   intro v
   induction v with
   |nil=>intro h _; rfl
   |cons q v c =>
    intro h a;show aps v (ì (ì h p.1 p.2) q.1 q.2)=ì (aps v (ì h q.1 q.2)) p.1 p.2;rw[Rn _ _ _ (a q (by simp)),c _ fun r d=>a r (by simp[d])]
  exact this v h (b p (by simp))
def Ş (all:AS Oper) (o:Oper) (t:AS AV):AN Bool :=
 match o.guard with
 |none=>some true
 |some (j,want)=>match lk t (nN all j) with
  |.bool b=>some (b==want)
  |.und=>some false
  |_=>none
def uL (E:Env ρ) (all:AS Oper) (o:Oper) (S:St):AS Nat :=
 match Ş all o S.t with
 |some true=>ya E S o.op
 |_=>[]
def uD (E:Env ρ) (call:AS Nat->Bool->Nat->AS AV->AS Blk->(AV->AS Blk->AN ρ)->AN ρ) (fid:Nat) (path:AS Nat) (all:AS Oper) (a:AS Nat) (acc:AS (Nat×AS Nat)) (i nid:Nat) (o:Oper) (S:St) (K:AS Nat->St->AN ρ):AN ρ :=
 match Ş all o S.t==some true&&!chk E all a acc i (ya E S o.op) with
 |true=>none
 |false=>ov E call fid path true all i nid o S (K (uL E all o S))
def acj {E:Env ρ} {call:AS Nat->Bool->Nat->AS AV->AS Blk->(AV->AS Blk->AN ρ)->AN ρ} {fid:Nat} {path:AS Nat} {all:AS Oper} {a:AS Nat} {o:Oper} {os:AS Oper} {i nid:Nat} {acc:AS (Nat×AS Nat)} {S:St} {K:St->AN ρ} :
 ack E call fid path all a (o::os) i nid acc S K=uD E call fid path all a acc i nid o S fun F l=>ack E call fid path all a os (i+1) (bif û E.clone o.op then nid+1 else nid) ((i,F)::acc) l K:=by
 have e:∀d b,lk S.t d=.bool b->({t:=upd S.t d (.bool b),h:=S.h}:St)=S:=fun d b hb=>by rw[<-hb,AF]
 have c:∀d b,lk S.t d=.bool b->upd S.t d (.bool b)=S.t:=fun d b hb=>by rw[<-hb,AF]
 simp only[ack,uD,ov,uL,Ş]
 cases o.guard with
 |none=>cases chk E all a acc i (ya E S o.op)<;>rfl
 |some g =>
  obtain⟨j,f⟩:=g;simp only
  cases hb:lk S.t (nN all j)<;>try rfl
  rename_i b;have k:=e _ b hb;have h2:=c _ b hb
  cases b<;>cases f<;>simp only[k,h2]<;>first
   |rfl
   |(cases chk E all a acc i (ya E S o.op)<;>rfl)
def C3 {E:Env ρ} {o:Op} (e:∀x∈o.operands.toList,ev t2 x=ev t x) (f:1<=cls E o->∀x∈o.operands.toList,mH h h2 (ev t x)):ya E {t:=t2,h:=h2} o=ya E {t:=t,h:=h} o:=by
 unfold ya
 split
 ·rename_i i;have b:1<=cls E o:=eA i
  have:∀l:AS Operand,(∀x∈l,x∈o.operands.toList)->(l.flatMap fun x=>refs2 h2 (ev t2 x))=l.flatMap fun x=>refs2 h (ev t x):=by
   intro l
   induction l with
   |nil=>intro _; rfl
   |cons x l c =>
    intro a;simp only[dH];rw[e x (a x (by simp)),(f b x (a x (by simp))).refs,c fun y d=>a y (by simp[d])]
  exact this _ fun _ h=>h
 ·rfl
def Fq {all:AS Oper} {o:Oper} (a:∀s∈ε all o,lk t2 s=lk t s):∀x∈o.op.operands.toList,ev t2 x=ev t x:=ah0 fun s b=>a s (by simp only[ε,cR]; exact .inr b)
def ij {all:AS Oper} {o:Oper} (b:∀s∈ε all o,lk t2 s=lk t s):Ş all o t2=Ş all o t:=by
 unfold Ş
 cases c:o.guard with
 |none=>rfl
 |some g =>
  obtain⟨j,a⟩:=g;simp only;rw[b _ (by simp[ε,c])]
def afs {E:Env ρ} {o:Op} (c:1<=cls E o) (a:kM E {t:=t,h:=h} o=true):∀id∈ya E {t:=t,h:=h} o,lkB h id≠.dead:=fun id hi hd=>by
 obtain⟨x,d,hi⟩:=(nO c).1 hi;unfold kM at a;have b:Nat.ble 1 (cls E o)=true:=Nat.ble_eq_true_of_le c;simp only[b,Bool.and_eq_true,List.all_eq_true] at a;have:=a.1 x d id hi;rw[hd] at this;cases this
def G5 {E:Env ρ} {call:AS Nat->Bool->Nat->AS AV->AS Blk->(AV->AS Blk->AN ρ)->AN ρ} {fid:Nat} {path:AS Nat} {all:AS Oper} {i nid:Nat} {o:Oper} (F:ρ)
 (y:afc E call) (A:cls E o.op<=2) (m:h2.length=h.length) (B:∀s∈ε all o,lk t2 s=lk t s)
 (H:Ş all o t=some true->1<=cls E o.op->∀x∈o.op.operands.toList,mH h h2 (ev t x)) :
 ∃φ:AN (AV×AS (Nat×Blk)),(∀r,φ=some r->∀p∈r.2,(p.1=nid/\û E.clone o.op=true)\/(cls E o.op=2/\p.1∈uL E all o {t:=t,h:=h})) /\
  (∀r,φ=some r->∀id∈uL E all o {t:=t,h:=h},lkB h id≠.dead) /\
  (∀K,ov E call fid path true all i nid o {t:=t,h:=h} K=φ.bind fun r=>K {t:=õ t o.dst r.1,h:=aps r.2 h}) /\
  ∀K,ov E call fid path true all i nid o {t:=t2,h:=h2} K=φ.bind fun r=>K {t:=õ t2 o.dst r.1,h:=aps r.2 h2}:=by
 have G:=Fq (t:=t) (t2:=t2) (o:=o) B;have c:=ij (t:=t) (t2:=t2) (o:=o) B
 cases d:Ş all o t with
 |none =>
  rw[d] at c
  have:∀(S:St),Ş all o S.t=none->∀K,ov E call fid path true all i nid o S K=none:=fun S a K=>by
   unfold Ş at a;unfold ov
   cases f:o.guard with
   |none=>rw[f] at a; cases a
   |some g =>
    obtain⟨j,e⟩:=g;rw[f] at a;simp only at a ⊢
    cases hb:lk S.t (nN all j)<;>rw[hb] at a<;>first|rfl|cases a
  exact⟨none,by simp,by simp,fun K=>this _ d K,fun K=>this _ c K⟩
 |some b =>
  cases b with
  |false =>
   rw[d] at c
   have:∀(S:St),Ş all o S.t=some false->∀K,ov E call fid path true all i nid o S K=K {t:=õ S.t o.dst .und,h:=S.h}:=fun S a K=>by
    unfold Ş at a;unfold ov
    cases f:o.guard with
    |none=>rw[f] at a; cases a
    |some g =>
     obtain⟨j,e⟩:=g;rw[f] at a;simp only at a ⊢
     cases hb:lk S.t (nN all j)<;>rw[hb] at a<;>first|rfl|(cases a; done)|skip
     simp only[Option.some.injEq] at a ⊢;rw[a]
   refine⟨some (.und,[]),?_,?_,fun K=>this _ d K,fun K=>this _ c K⟩
   ·intro r k p z;cases k;cases z
   ·intro r k id hi;simp only[uL,d] at hi;cases hi
  |true =>
   rw[d] at c
   have l:∀(S:St),Ş all o S.t=some true->∀K,ov E call fid path true all i nid o S K=jo E call fid (path++[i]) true S nid o fun v S=>K {t:=õ S.t o.dst v,h:=S.h}:=fun S a K=>by
    unfold Ş at a;unfold ov
    cases f:o.guard with
    |none=>rfl
    |some g =>
     obtain⟨j,e⟩:=g;rw[f] at a;simp only at a ⊢
     cases hb:lk S.t (nN all j)<;>rw[hb] at a<;>first|(cases a; done)|skip
     simp only[Option.some.injEq] at a ⊢;rw[a]
   obtain⟨φ,L,q,J⟩:=ah7 (fid:=fid) (path:=path++[i]) (nid:=nid) y A m G (H d)
   have n:uL E all o {t:=t,h:=h}=ya E {t:=t,h:=h} o.op:=by simp only[uL,d]
   refine⟨φ,fun r k p z=>?_,fun r k id hi=>?_,fun K=>by rw[l _ d,q],fun K=>by rw[l _ c,J]⟩
   ·rw[n]; exact L r k p z
   ·rw[n] at hi
    by_cases I:1<=cls E o.op
    ·refine afs I ?_ id hi
     cases u:kM E {t:=t,h:=h} o.op with
     |true=>rfl
     |false =>
      exfalso;have C:=q fun v S=>some F;rw[k] at C;simp[iC,u] at C
    ·rw[C2 (by omega)] at hi;cases hi
def wI:∀{l m:AS Nat},disj l m=true↔∀x∈l,x∉m
 |[],m=>by simp[disj]
 |x::l,m=>by
  simp only[disj,cM,eI,eE,cW,forall_eq_or_imp,wI (l:=l)];refine and_congr_left fun _=>⟨fun h b=>h x b (Nat.beq_refl x),fun h y a c=>?_⟩;have:=cZ c;subst this;exact h a
structure ahr (E:Env ρ) (all:AS Oper) (bef:AS Nat) (ia ib:Nat) (a b:Oper):Prop where
 ha:all[ia]?=some a
 hb:all[ib]?=some b
 a3:cls E a.op<=2
 b3:cls E b.op<=2\/cls E a.op=0
 rb:∀s∈ε all b,a.dst≠some s
 ra:∀s∈ε all a,b.dst≠some s
 dd:∀x,a.dst=some x->b.dst≠some x
 bab:(bef.getD ib 0).testBit ia=false
 bba:(bef.getD ia 0).testBit ib=false
def ad8 (E:Env ρ) (o:Op):cls E o<=3:=by
 cases o with
 |call c =>
  obtain⟨f,args,tys⟩:=c
  cases f with
  |value f=>cases f<;>simp only[cls]<;>(repeat' split)<;>omega
  |builtin b=>cases b<;>simp[cls]
  |_=>simp[cls]
 |_=>simp[cls]
def WZ {E:Env ρ} {all:AS Oper} {c:AS Nat} {ia ib:Nat} {a b:Oper} (e:agM E all a b=false) (ha:all[ia]?=some a) (hb:all[ib]?=some b) (q:(c.getD ib 0).testBit ia=false) (h2:(c.getD ia 0).testBit ib=false):ahr E all c ia ib a b:=by
 unfold agM at e;simp only[Bool.or_eq_false_iff,beq_eq_false_iff_ne] at e;obtain⟨⟨⟨⟨_,v,i⟩,l⟩,k⟩,j⟩:=e;have u:=ad8 E a.op;have r:=ad8 E b.op
 have f:cls E b.op<=2\/cls E a.op=0:=by
  by_cases p:cls E b.op=3
  ·rw[p] at i;right
   by_cases o:1<=cls E a.op
   ·rw[Nat.ble_eq_true_of_le o] at i; cases i
   ·omega
  ·left; omega
 refine⟨ha,hb,by omega,f,fun s d hd=>?_,fun s d hd=>?_,fun x n m=>?_,q,h2⟩
 ·rw[hd] at l;simp[af2,d] at l
 ·rw[hd] at k;simp[af2,d] at k
 ·rw[n,m] at j;simp at j
def AZ {E:Env ρ} {all:AS Oper} {c:AS Nat} {j i:Nat} {a b:Oper} {e f:AS Nat} (d:A0 E all c j i e f=true) (ha:all[j]?=some a) (hb:all[i]?=some b) (l:(c.getD j 0).testBit i=false) (h2:(c.getD i 0).testBit j=false)
 (k:zq E a.op b.op=true):∀x∈e,x∉f:=by
 unfold A0 at d;simp only[ha,hb,k,l,h2,Bool.not_true,Bool.false_or,Bool.or_false] at d;exact wI.1 d
def W0 {E:Env ρ} {a b:Op}:zq E a b=zq E b a:=by
 unfold zq; cases cls E a==2<;>cases cls E b==2<;>cases Nat.ble 1 (cls E a)<;>cases Nat.ble 1 (cls E b)<;>rfl
def VP {E:Env ρ} {all:AS Oper} {d:AS Nat} {j i:Nat} {e f:AS Nat} (c:A0 E all d j i e f=true):A0 E all d i j f e=true:=by
 unfold A0 at c ⊢;rw[Bool.or_eq_true] at c ⊢;rcases c with c|c
 ·exact .inl (wI.2 fun x l k=>wI.1 c x k l)
 refine .inr ?_
 cases ha:all[j]? with
 |none=>rw[ha] at c; cases c
 |some a=>cases hb:all[i]? with
  |none=>rw[ha,hb] at c; cases c
  |some b =>
   rw[ha,hb] at c;simp only[Bool.or_eq_true,eI] at c ⊢;rw[W0];rcases c with c|c|c
   ·exact .inl c
   ·exact .inr (.inr c)
   ·exact .inr (.inl c)
def om {E:Env ρ} {a b:Op}:zq E a b=true↔(cls E a=2/\1<=cls E b)\/(1<=cls E a/\cls E b=2):=by
 unfold zq;simp only[Bool.or_eq_true,Bool.and_eq_true,beq_iff_eq,Nat.ble_eq]
def nX {E:Env ρ} {all:AS Oper} {a:AS Nat} {acc:AS (Nat×AS Nat)} {p:Nat×AS Nat} {i:Nat} {F:AS Nat}:chk E all a (p::acc) i F=(A0 E all a p.1 i p.2 F&&chk E all a acc i F):=by
 simp[chk]
def D5 {E:Env ρ} {all:AS Oper} {c:AS Nat} {j i:Nat} {a b:Oper} {d:AS Nat} (ha:all[j]?=some a) (hb:all[i]?=some b):A0 E all c j i d []=true:=by
 unfold A0;rw[Bool.or_eq_true];exact .inl (wI.2 fun x _=>by simp)
def Ks {E:Env ρ} {all:AS Oper} {o:Oper} (a:∀s∈ε all o,lk t2 s=lk t s) (d:Ş all o t=some true->1<=cls E o.op->∀x∈o.op.operands.toList,mH h h2 (ev t x)):uL E all o {t:=t2,h:=h2}=uL E all o {t:=t,h:=h}:=by
 unfold uL;simp only[ij (t:=t) (t2:=t2) a]
 cases c:Ş all o t with
 |none=>rfl
 |some b=>cases b with
  |false=>rfl
  |true=>exact C3 (Fq a) (d c)
def aaX {E:Env ρ} {o:Op} (h:cls E o=0):û E.clone o=false:=by
 cases o with
 |call c =>
  obtain⟨f,args,tys⟩:=c
  cases f with
  |value f=>cases f<;>simp only[cls] at h<;>(repeat' split at h)<;>first|omega|rfl|(cases h; done)
  |builtin b=>cases b<;>simp[cls] at h
  |_=>simp[cls] at h
 |_=>first|rfl|(simp[cls] at h; done)
def ad9 {E:Env ρ} {o:Op} (h:cls E o=0):Oq o=false:=by
 cases o with
 |call c =>
  obtain⟨f,args,tys⟩:=c
  cases f with
  |value f=>cases f<;>simp only[cls] at h<;>(repeat' split at h)<;>first|omega|(cases h; done)
  |_=>rfl
 |_=>rfl
def afI {E:Env ρ} {call:AS Nat->Bool->Nat->AS AV->AS Blk->(AV->AS Blk->AN ρ)->AN ρ} {fid:Nat} {path:AS Nat} {nid:Nat} {o:Oper} (b:cls E o.op=0) :
 ∃φ:AN AV,∀(t2:AS AV) (h2:AS Blk),(∀x∈o.op.operands.toList,ev t2 x=ev t x)->∀K,jo E call fid path true {t:=t2,h:=h2} nid o K=φ.bind fun v=>K v {t:=t2,h:=h2}:=by
 have a:=ad9 b;have j:=aaX b
 have m:∀S:St,∀K,jo E call fid path true S nid o K=opK E.P S nid false o.op K:=fun S K=>by
  have l:kM E S o.op=true:=by
   unfold kM
   have:Nat.ble 1 (cls E o.op)=false:=by rw[b]; rfl
   rw[this]
  have i:KQ E true fid o=false:=by
   unfold KQ
   cases n:o.op<;>first|rfl|(rw[n] at b; simp[cls] at b; done)
  simp only[iC]
  try simp only[Fs]
  simp only[l,i,dM,fT]
  cases e:o.op with
  |call c =>
   obtain⟨f,args,tys⟩:=c;rw[e] at a
   cases f with
   |value f=>cases a
   |_=>rfl
  |_=>rfl
 refine⟨opK E.P {t:=t,h:=[]} nid false o.op fun v _=>some v,fun t2 h2 k K=>?_⟩;rw[m,Pu]
 have:=ahz (P:=E.P) (E:=E) (o:=o.op) (nid:=nid) (σ:=AV) (σ2:=AV×St) (t:=t) (t2:=t2) (h:=[]) (h2:=h2) (K:=fun v _=>some v) (K2:=fun v S=>some (v,S)) (R:=fun x y=>y=x.map fun v=>(v,({t:=t2,h:=h2}:St)))
  rfl (by omega) a k (fun q=>by omega) fun v p d=>by
   cases p with
   |none=>rfl
   |some B=>rw[j] at d; exact absurd (d rfl) (by simp)
 unfold opR;rw[this]
 cases opK E.P {t:=t,h:=[]} nid false o.op (fun v _=>some v)<;>rfl
def abQ {E:Env ρ} {call:AS Nat->Bool->Nat->AS AV->AS Blk->(AV->AS Blk->AN ρ)->AN ρ} {fid:Nat} {path:AS Nat} {all:AS Oper} {i nid:Nat} {o:Oper} (l:cls E o.op=0) (t:AS AV) :
 ∃φ:AN AV,∀(t2:AS AV) (h2:AS Blk),(∀s∈ε all o,lk t2 s=lk t s)->∀K,ov E call fid path true all i nid o {t:=t2,h:=h2} K=φ.bind fun v=>K {t:=õ t2 o.dst v,h:=h2}:=by
 obtain⟨φ,f⟩:=afI (call:=call) (fid:=fid) (path:=path++[i]) (nid:=nid) (t:=t) l
 cases k:Ş all o t with
 |none =>
  refine⟨none,fun t2 h2 e K=>?_⟩;have a:=(ij (t:=t) (t2:=t2) e).trans k;unfold Ş at a;unfold ov
  cases d:o.guard with
  |none=>rw[d] at a; cases a
  |some g =>
   obtain⟨j,c⟩:=g;rw[d] at a;simp only at a ⊢
   cases hb:lk t2 (nN all j)<;>rw[hb] at a<;>first|rfl|cases a
 |some b =>
  cases b with
  |false =>
   refine⟨some .und,fun t2 h2 e K=>?_⟩;have a:=(ij (t:=t) (t2:=t2) e).trans k;unfold Ş at a;unfold ov
   cases d:o.guard with
   |none=>rw[d] at a; cases a
   |some g =>
    obtain⟨j,c⟩:=g;rw[d] at a;simp only at a ⊢
    cases hb:lk t2 (nN all j)<;>rw[hb] at a<;>first|rfl|(cases a; done)|skip
    simp only[Option.some.injEq] at a ⊢;rw[a];rfl
  |true =>
   refine⟨φ,fun t2 h2 e K=>?_⟩;have a:=(ij (t:=t) (t2:=t2) e).trans k;have m:=f t2 h2 (Fq e);unfold Ş at a;unfold ov
   cases d:o.guard with
   |none=>exact m _
   |some g =>
    obtain⟨j,c⟩:=g;rw[d] at a;simp only at a ⊢
    cases hb:lk t2 (nN all j)<;>rw[hb] at a<;>first|(cases a; done)|skip
    simp only[Option.some.injEq] at a ⊢;rw[a];exact m _
def abX {E:Env ρ} {call:AS Nat->Bool->Nat->AS AV->AS Blk->(AV->AS Blk->AN ρ)->AN ρ} {fid:Nat} {path:AS Nat} {nid:Nat} {o:Oper} (a:cls E o.op=3) (i:∀x∈o.op.operands.toList,ev t2 x=ev t x) (K:AV->St->AN ρ) :
 jo E call fid path true {t:=t2,h:=h} nid o K=jo E call fid path true {t:=t,h:=h} nid o fun v S=>K v {t:=t2,h:=S.h}:=by
 have j:kM E {t:=t2,h:=h} o.op=kM E {t:=t,h:=h} o.op:=KS i fun _ _ _ _ _=>rfl;simp only[iC]
 try simp only[Fs]
 rw[j]
 cases n:o.op with
 |call c =>
  obtain⟨f,args,tys⟩:=c;rw[n] at i a
  cases f with
  |value f =>
   have q:ev t2 f=ev t f:=i f (by simp[Op.operands,Call.operands]);have d:∀x∈args.toList,ev t2 x=ev t x:=fun x p=>i x (by simp[Op.operands,Call.operands]; exact .inr (by simpa using p));have r:=Il d;simp only[q,r]
   cases e:ev t f with
   |fn g fa fb =>
    cases g with
    |func g =>
     simp only
     cases k:E.clone g&&WF f with
     |false=>rfl
     |true =>
      exfalso;rw[cM] at k
      cases f with
      |func g' =>
       have:g'=g:=by simp only[ev] at e; cases e; rfl
       subst this;simp[cls,k.1] at a
      |_=>simp[WF] at k
    |_=>rfl
   |yld =>
    simp only;rcases m:args.toList with _|⟨x,_|⟨y,l⟩⟩
    ·rfl
    ·simp only; rw[d x (by rw[m]; simp)]
    ·rfl
   |_=>rfl
  |builtin b=>cases b<;>simp[cls] at a
  |_=>rfl
 |_=>rw[n] at a; simp[cls] at a
def ZN {E:Env ρ} {call:AS Nat->Bool->Nat->AS AV->AS Blk->(AV->AS Blk->AN ρ)->AN ρ} {fid:Nat} {path:AS Nat} {all:AS Oper} {i nid:Nat} {o:Oper} (l:cls E o.op=3) (e:∀s∈ε all o,lk t2 s=lk t s) :
 ∃Ψ:(AV->AS Blk->AN ρ)->AN ρ,(∀K,ov E call fid path true all i nid o {t:=t,h:=h} K=Ψ fun v h'=>K {t:=õ t o.dst v,h:=h'})/\∀K,ov E call fid path true all i nid o {t:=t2,h:=h} K=Ψ fun v h'=>K {t:=õ t2 o.dst v,h:=h'}:=by
 have d:∀a:AS AV,(∀s∈ε all o,lk a s=lk t s)->∀K,ov E call fid path true all i nid o {t:=a,h:=h} K=(fun k:AV->AS Blk->AN ρ=>match Ş all o t with
  |none=>none
  |some false=>k .und h
  |some true=>jo E call fid (path++[i]) true {t:=t,h:=h} nid o fun v S=>k v S.h) fun v h'=>K {t:=õ a o.dst v,h:=h'}:=fun a e K=>by
  have f:=ij (t:=t) (t2:=a) (o:=o) e;have m:=abX (call:=call) (fid:=fid) (path:=path++[i]) (nid:=nid) (h:=h) l (Fq e);rw[<-f];unfold Ş ov
  cases p:o.guard with
  |none=>exact m _
  |some g =>
   obtain⟨j,c⟩:=g;simp only
   cases hb:lk a (nN all j) with
   |bool b =>
    simp only
    cases n:b==c with
    |true=>exact m _
    |false=>rfl
   |_=>rfl
 exact⟨fun k:AV->AS Blk->AN ρ=>match Ş all o t with
  |none=>none
  |some false=>k .und h
  |some true=>jo E call fid (path++[i]) true {t:=t,h:=h} nid o fun v S=>k v S.h,d t fun _ _=>rfl,d t2 e⟩
def Uu {E:Env ρ} {all:AS Oper} {o:Oper} (a:cls E o.op=0) (S:St):uL E all o S=[]:=by
 unfold uL
 split
 ·exact C2 a
 ·rfl
def swap0 {E:Env ρ} {call:AS Nat->Bool->Nat->AS AV->AS Blk->(AV->AS Blk->AN ρ)->AN ρ} {fid:Nat} {path:AS Nat} {all:AS Oper} {d:AS Nat} {acc:AS (Nat×AS Nat)} {ia na ib nb:Nat} {a b:Oper} {K:AS Nat->AS Nat->St->AN ρ} {r:ρ}
 (o:ahr E all d ia ib a b) (ha:cls E a.op=0) (hb:cls E b.op=3)
 (e:uD E call fid path all d acc ia na a {t:=t,h:=h} (fun q S=>uD E call fid path all d ((ia,q)::acc) ib nb b S (K q))=some r) :
 uD E call fid path all d acc ib nb b {t:=t,h:=h} (fun C S=>uD E call fid path all d ((ib,C)::acc) ia na a S fun q=>K q C)=some r:=by
 obtain⟨φ,m⟩:=abQ (call:=call) (fid:=fid) (path:=path) (all:=all) (i:=ia) (nid:=na) ha t;unfold uD at e
 split at e<;>try (cases e; done)
 rename_i j;rw[m t h fun _ _=>rfl] at e;obtain⟨p,F,l⟩:=ġ e;simp only at l
 split at l<;>try (cases l; done)
 rename_i c;have f:∀s∈ε all b,lk (õ t a.dst p) s=lk t s:=fun s z=>uU (o.rb s z) _;obtain⟨Ψ,H,G⟩:=ZN (call:=call) (fid:=fid) (path:=path) (all:=all) (i:=ib) (nid:=nb) (h:=h) hb f;rw[G] at l;have x:Ş all b (õ t a.dst p)=Ş all b t:=ij f;have A:ya E {t:=õ t a.dst p,h:=h} b.op=ya E {t:=t,h:=h} b.op:=C3 (Fq f) fun _ _ _ _ _=>rfl;have B:uL E all b {t:=õ t a.dst p,h:=h}=uL E all b {t:=t,h:=h}:=Ks f fun _ _ _ _ _ _=>rfl;unfold uD
 split
 ·rename_i u;exfalso;rw[A,x,nX] at c
  cases J:Ş all b t==some true<;>rw[J] at u c<;>simp only[gI,eJ,eI,fc,dk] at u c
  rw[u,fT] at c;cases c
 ·rw[H];rw[<-l];congr 1;funext v h';have n:∀s∈ε all a,lk (õ t b.dst v) s=lk t s:=fun s z=>uU (o.ra s z) _;have y:Ş all a (õ t b.dst v)=Ş all a t:=ij n
  have k:¬((Ş all a (õ t b.dst v)==some true&&!chk E all d ((ib,uL E all b {t:=t,h:=h})::acc) ia (ya E {t:=õ t b.dst v,h:=h'} a.op))=true):=by
   rw[y,C2 ha,nX,D5 o.hb o.ha,eJ];rw[C2 ha] at j;exact eS.1 j
  dsimp only
  split
  ·rename_i I; exact absurd I k
  ·rw[m _ _ n,F,ez,Uu ha,Uu ha,B,HK o.dd]
def swap {E:Env ρ} {call:AS Nat->Bool->Nat->AS AV->AS Blk->(AV->AS Blk->AN ρ)->AN ρ} {fid:Nat} {path:AS Nat} {all:AS Oper} {m:AS Nat} {acc:AS (Nat×AS Nat)} {ia na ib nb:Nat} {a b:Oper} {K:AS Nat->AS Nat->St->AN ρ} {r:ρ}
 (hpe:afc E call) (j:ahr E all m ia ib a b) (hbd:û E.clone b.op=true->lkB h nb=.dead) (hn:û E.clone a.op=true->û E.clone b.op=true->na≠nb)
 (hfar1:û E.clone a.op=true->∀x∈b.op.operands.toList,na∉refs1 (ev t x))
 (hfar:1<=cls E b.op->û E.clone a.op=true->(∀p∈acc,∀c,all[p.1]?=some c->zq E c.op b.op=true->(m.getD ib 0).testBit p.1=false->(m.getD p.1 0).testBit ib=false->∀x∈b.op.operands.toList,∀id∈refs1 (ev t x),id∉p.2)->∀x∈b.op.operands.toList,na∉refs2 h (ev t x))
 (e:uD E call fid path all m acc ia na a {t:=t,h:=h} (fun Fa S=>uD E call fid path all m ((ia,Fa)::acc) ib nb b S (K Fa))=some r) :
 uD E call fid path all m acc ib nb b {t:=t,h:=h} (fun Fb S=>uD E call fid path all m ((ib,Fb)::acc) ia na a S fun Fa=>K Fa Fb)=some r:=by
 by_cases hb3:cls E b.op<=2
 case neg =>
  have:=ad8 E b.op;exact swap0 j (j.b3.resolve_left hb3) (by omega) e
 -- what a does
 obtain⟨φa,a0,a1,a2,_⟩:=G5 (t:=t) (t2:=t) (h:=h) (h2:=h) (call:=call) (fid:=fid) (path:=path) (i:=ia) (nid:=na) (all:=all) r hpe j.a3 rfl (fun _ _=>rfl) (fun _ _ _ _ _ _=>rfl);unfold uD at e
 split at e<;>try (cases e; done)
 rename_i I;rw[a2] at e;obtain⟨⟨Z,U⟩,q1,q2⟩:=ġ e;simp only at q2
 split at q2<;>try (cases q2; done)
 rename_i d;have Y:=a1 _ q1;have hea:=a0 _ q1;simp only at hea
 -- b looks at the same
 have C:∀s∈ε all b,lk (õ t a.dst Z) s=lk t s:=fun s hs=>uU (j.rb s hs) _;have htb':∀s∈ε all b,lk t s=lk (õ t a.dst Z) s:=fun s hs=>(C s hs).symm;have L:=Fq C;have hwb:Ş all b (õ t a.dst Z)=Ş all b t:=ij C
 have B:1<=cls E b.op->Ş all b t=some true->chk E all m ((ia,uL E all a {t:=t,h:=h})::acc) ib (ya E {t:=õ t a.dst Z,h:=aps U h} b.op)=true:=fun _ f=>by
  rw[hwb,f] at d;simpa using d
 have hone:Ş all b t=some true->1<=cls E b.op->∀x∈b.op.operands.toList,∀id∈refs1 (ev t x),lkB (aps U h) id=lkB h id:=fun f o x v id hi=>by
  refine OZ fun p T k=>?_;rcases hea p T with⟨h2,n⟩|⟨h2,n⟩
  ·exact hfar1 n x v (by rw[<-h2,k]; exact hi)
  ·have F:=B o f;rw[nX,cM] at F;refine AZ F.1 j.ha j.hb j.bba j.bab (om.2 (.inl ⟨h2,o⟩)) p.1 n ?_;rw[k];refine(nO o).2 ⟨x,v,?_⟩;rw[L x v];simp only[refs2,cR];exact .inl hi
 have hrefs:Ş all b t=some true->1<=cls E b.op->∀x∈b.op.operands.toList,refs2 (aps U h) (ev t x)=refs2 h (ev t x):=fun f o x v=>by
  have:∀(l:AS Nat),(∀id∈l,lkB (aps U h) id=lkB h id)->(l.flatMap fun id=>(K3 (lkB (aps U h) id)).flatMap ā)=l.flatMap fun id=>(K3 (lkB h id)).flatMap ā:=by
   intro l
   induction l with
   |nil=>intro _; rfl
   |cons y l ih=>intro hl; simp only[dH]; rw[hl y (by simp),ih fun id hi=>hl id (by simp[hi])]
  simp only[refs2];rw[this _ (hone f o x v)]
 have G:Ş all b t=some true->1<=cls E b.op->û E.clone a.op=true->∀x∈b.op.operands.toList,na∉refs2 h (ev t x):=fun f o h2=>hfar o h2 fun p T c hc1 hc2 hb1 hb2 x v id hi k=>by
  have F:=B o f;rw[nX,cM] at F;have hk2:=dw.1 F.2 p T;refine AZ hk2 hc1 j.hb hb2 hb1 hc2 id k ((nO o).2 ⟨x,v,?_⟩);rw[L x v];simp only[refs2,cR];exact .inl hi
 have A:Ş all b t=some true->1<=cls E b.op->∀x∈b.op.operands.toList,mH h (aps U h) (ev t x):=fun f o x v id hi=>by
  refine OZ fun p T k=>?_;rcases hea p T with⟨h2,n⟩|⟨h2,n⟩
  ·exact G f o n x v (by rw[<-h2,k]; exact hi)
  ·have F:=B o f;rw[nX,cM] at F;refine AZ F.1 j.ha j.hb j.bba j.bab (om.2 (.inl ⟨h2,o⟩)) p.1 n ?_;rw[k];refine(nO o).2 ⟨x,v,?_⟩;rw[L x v,hrefs f o x v];exact hi
 -- what b does
 obtain⟨φb,b0,b1,b2,b3⟩:=G5 (t:=t) (t2:=õ t a.dst Z) (h:=h) (h2:=aps U h) (call:=call) (fid:=fid) (path:=path) (i:=ib) (nid:=nb) (all:=all) r hpe hb3 (rN _ _) C A;have hfb:uL E all b {t:=õ t a.dst Z,h:=aps U h}=uL E all b {t:=t,h:=h}:=Ks C A;rw[b3] at q2;obtain⟨⟨vb,eb⟩,q3,q4⟩:=ġ q2;simp only at q4;rw[hfb] at q4;have heb:=b0 _ q3;simp only at heb;have hfo:Ş all b t=some true->ya E {t:=õ t a.dst Z,h:=aps U h} b.op=ya E {t:=t,h:=h} b.op:=fun f=>C3 L (A f)
 -- a looks at the same
 have O:∀s∈ε all a,lk (õ t b.dst vb) s=lk t s:=fun s hs=>uU (j.ra s hs) _
 have H:zq E a.op b.op=true->∀id∈uL E all a {t:=t,h:=h},id∉uL E all b {t:=t,h:=h}:=fun hcl id hi hj=>by
  unfold uL at hj;simp only at hj
  split at hj
  ·rename_i f
   have o:1<=cls E b.op:=by rcases om.1 hcl with h|h<;>omega
   have F:=B o f;rw[nX,cM,hfo f] at F;exact AZ F.1 j.ha j.hb j.bba j.bab hcl id hi hj
  ·cases hj
 have u:Ş all a t=some true->1<=cls E a.op->∀x∈a.op.operands.toList,mH h (aps eb h) (ev t x):=fun f o x v id hi=>by
  have V:id∈uL E all a {t:=t,h:=h}:=by
   unfold uL;simp only[f];exact(nO o).2 ⟨x,v,hi⟩
  refine OZ fun p T k=>?_;rcases heb p T with⟨h2,n⟩|⟨h2,n⟩
  ·exact Y id V (by rw[<-k,h2]; exact hbd n)
  ·exact H (om.2 (.inr ⟨o,h2⟩)) id V (k▸n)
 obtain⟨φa',a0',a1',a2',a3'⟩:=G5 (t:=t) (t2:=õ t b.dst vb) (h:=h) (h2:=aps eb h) (call:=call) (fid:=fid) (path:=path) (i:=ia) (nid:=na) (all:=all) r hpe j.a3 (rN _ _) O u;have hfa:uL E all a {t:=õ t b.dst vb,h:=aps eb h}=uL E all a {t:=t,h:=h}:=Ks O u
 have n:ov E call fid path true all ia na a {t:=t,h:=h} (fun S=>K (uL E all a {t:=t,h:=h}) (uL E all b {t:=t,h:=h}) {t:=õ S.t b.dst vb,h:=aps eb S.h})=some r:=by rw[a2,q1]; exact q4
 rw[a2'] at n;obtain⟨⟨va',ea'⟩,q5,q6⟩:=ġ n;simp only at q6;have W:=a0' _ q5;simp only at W
 have hcomm:aps eb (aps ea' h)=aps ea' (aps eb h):=Zy fun p T q hq R=>by
  rcases W p T with⟨h2,n⟩|⟨h2,n⟩<;>rcases heb q hq with⟨h4,J⟩|⟨h4,J⟩
  ·exact hn n J (by rw[<-h2,<-h4]; exact R)
  ·-- b would write a's new block
   have f:Ş all b t=some true:=by
    unfold uL at J;simp only at J
    split at J
    ·assumption
    ·cases J
   have h5':q.1∈ya E {t:=t,h:=h} b.op:=by
    unfold uL at J;simp only[f] at J;exact J
   obtain⟨x,v,hi⟩:=(nO (by omega)).1 h5';exact G f (by omega) n x v (by rw[<-h2,R]; exact hi)
  ·exact Y p.1 n (by rw[R,h4]; exact hbd J)
  ·exact H (om.2 (.inl ⟨h2,by omega⟩)) p.1 n (by rw[R]; exact J)
 rw[HK j.dd,hcomm] at q6
 -- the checks
 have chb:(Ş all b t==some true&&!chk E all m acc ib (ya E {t:=t,h:=h} b.op))=false:=by
  cases f:Ş all b t==some true with
  |false=>rfl
  |true =>
   have N:Ş all b t=some true:=by simpa using f
   rw[hwb,f] at d;simp only[eJ,fc] at d ⊢;rw[nX,cM,hfo N] at d;exact d.2
 have cha:(Ş all a (õ t b.dst vb)==some true&&!chk E all m ((ib,uL E all b {t:=t,h:=h})::acc) ia (ya E {t:=õ t b.dst vb,h:=aps eb h} a.op))=false:=by
  rw[ij O]
  cases f:Ş all a t==some true with
  |false=>rfl
  |true =>
   have N:Ş all a t=some true:=by simpa using f
   rw[f] at I;simp only[eJ,fc] at I ⊢;rw[C3 (Fq O) (u N),nX,cM];refine⟨VP ?_,I⟩
   have hfa0:uL E all a {t:=t,h:=h}=ya E {t:=t,h:=h} a.op:=by simp only[uL,N]
   cases z:Ş all b t with
   |some wb=>cases wb with
    |true =>
     rw[hwb,z] at d;simp only[beq_self_eq_true,eJ,fc] at d;rw[nX,cM,hfo z,hfa0] at d;simp only[uL,z];exact d.1
    |false=>simp only[uL,z]; exact D5 j.ha j.hb
   |none=>simp only[uL,z]; exact D5 j.ha j.hb
 unfold uD;simp only[chb];rw[b2,q3];simp only[Option.bind_some,cha];rw[a3',q5];simp only[Option.bind_some];rw[hfa];exact q6
abbrev Item:=Nat×Nat×Oper
def mS (clone:Nat->Bool):AS Oper->Nat->Nat->AS Item
 |[],_,_=>[]
 |o::os,i,nid=>(i,nid,o)::mS clone os (i+1) (bif û clone o.op then nid+1 else nid)
def XN (E:Env ρ) (call:AS Nat->Bool->Nat->AS AV->AS Blk->(AV->AS Blk->AN ρ)->AN ρ) (fid:Nat) (path:AS Nat) (all:AS Oper) (a:AS Nat):AS Item->AS (Nat×AS Nat)->St->(St->AN ρ)->AN ρ
 |[],_,S,K=>K S
 |x::l,acc,S,K=>uD E call fid path all a acc x.1 x.2.1 x.2.2 S fun F S=>XN E call fid path all a l ((x.1,F)::acc) S K
def SK {E:Env ρ} {call:AS Nat->Bool->Nat->AS AV->AS Blk->(AV->AS Blk->AN ρ)->AN ρ} {fid:Nat} {path:AS Nat} {all:AS Oper} {a:AS Nat}:∀(os:AS Oper) (i nid:Nat) (acc:AS (Nat×AS Nat)) (S:St) (K:St->AN ρ),
 ack E call fid path all a os i nid acc S K=XN E call fid path all a (mS E.clone os i nid) acc S K
 |[],_,_,_,_,_=>rfl
 |o::os,i,nid,acc,S,K=>by
  rw[acj];simp only[mS,XN];congr 1;funext F S';exact SK os _ _ _ S' K
def agP {E:Env ρ} {all:AS Oper} {b:AS Nat} {acc a:AS (Nat×AS Nat)} {i:Nat} {F:AS Nat} (h:∀p,p∈acc↔p∈a):chk E all b acc i F=chk E all b a i F:=by
 rw[d8];simp only[chk,dw]
 exact forall_congr' fun p=>by rw[h p]
def RK {E:Env ρ} {call:AS Nat->Bool->Nat->AS AV->AS Blk->(AV->AS Blk->AN ρ)->AN ρ} {fid:Nat} {path:AS Nat} {all:AS Oper} {b:AS Nat} {K:St->AN ρ}:∀(l:AS Item) {acc a:AS (Nat×AS Nat)} (S:St),(∀p,p∈acc↔p∈a) ->
 XN E call fid path all b l acc S K=XN E call fid path all b l a S K
 |[],_,_,_,_=>rfl
 |x::l,acc,a,S,h=>by
  simp only[XN,uD];rw[agP h]
  split
  ·rfl
  ·congr 1;funext S'
   exact RK l S' fun p=>by simp[h p]
def ahT {E:Env ρ} {call:AS Nat->Bool->Nat->AS AV->AS Blk->(AV->AS Blk->AN ρ)->AN ρ} {fid:Nat} {path:AS Nat} {all:AS Oper} {f:AS Nat} {b:Item} {rest:AS Item} {K:St->AN ρ} {r:ρ} {h0:AS Blk} {t0:AS AV}
 (u:afc E call) :
 ∀(as:AS Item) (acc:AS (Nat×AS Nat)) (t:AS AV) (h:AS Blk),(∀a∈as,ahr E all f a.1 b.1 a.2.2 b.2.2)->(∀s∈ε all b.2.2,lk t s=lk t0 s)->(û E.clone b.2.2.op=true->lkB h b.2.1=.dead) ->
  (∀a∈as,û E.clone a.2.2.op=true->û E.clone b.2.2.op=true->a.2.1≠b.2.1)->(∀a∈as,û E.clone a.2.2.op=true->∀x∈b.2.2.op.operands.toList,a.2.1∉refs2 h0 (ev t0 x)) ->
  (1<=cls E b.2.2.op->∀x∈b.2.2.op.operands.toList,∀id∈refs1 (ev t0 x),lkB h id=lkB h0 id\/∃p∈acc,(∃c,all[p.1]?=some c/\zq E c.op b.2.2.op=true/\(f.getD b.1 0).testBit p.1=false/\(f.getD p.1 0).testBit b.1=false)/\id∈p.2) ->
  XN E call fid path all f (as++b::rest) acc {t:=t,h:=h} K=some r->XN E call fid path all f (b::(as++rest)) acc {t:=t,h:=h} K=some r
 |[],acc,t,h,_,_,_,_,_,_,e=>e
 |a::as,acc,t,h,I,Z,z,W,hfar,hinv,e=>by
  have B:=I a (by simp);have m:∀x∈b.2.2.op.operands.toList,ev t x=ev t0 x:=Fq Z
  have F:û E.clone a.2.2.op=true->∀x∈b.2.2.op.operands.toList,a.2.1∉refs1 (ev t x):=fun j x k hi=>hfar a (by simp) j x k (by
   rw[m x k] at hi;simp only[refs2,cR]
   exact .inl hi)
  simp only[fe,XN] at e ⊢
  have fin:=swap (K:=fun N L S=>XN E call fid path all f (as++rest) ((b.1,L)::(a.1,N)::acc) S K) (r:=r) (t:=t) (h:=h) (acc:=acc) (ia:=a.1) (na:=a.2.1) (ib:=b.1) (nb:=b.2.1) (a:=a.2.2) (b:=b.2.2) (fid:=fid) (path:=path) u B z (W a (by simp)) F
   (fun O j U x k=>by
    rw[m x k];have o:∀id∈refs1 (ev t0 x),lkB h id=lkB h0 id:=fun id hi=>(hinv O x k id hi).resolve_right fun⟨p,n,⟨c,c1,c2,c3,c4⟩,d⟩=>U p n c c1 c2 c3 c4 x k id (by rw[m x k]; exact hi) d
    have:refs2 h (ev t0 x)=refs2 h0 (ev t0 x):=by
     have T:∀(l:AS Nat),(∀id∈l,lkB h id=lkB h0 id)->(l.flatMap fun id=>(K3 (lkB h id)).flatMap ā)=l.flatMap fun id=>(K3 (lkB h0 id)).flatMap ā:=by
      intro l
      induction l with
      |nil=>intro _; rfl
      |cons y l ih=>intro hl; simp only[dH]; rw[hl y (by simp),ih fun id hi=>hl id (by simp[hi])]
     simp only[refs2];rw[T _ o]
    rw[this]
    exact hfar a (by simp) j x k) ?_
  ·have q:∀(N L:AS Nat) (S:St),XN E call fid path all f (as++rest) ((b.1,L)::(a.1,N)::acc) S K=XN E call fid path all f (as++rest) ((a.1,N)::(b.1,L)::acc) S K:=fun N L S=>RK _ S fun p=>by
    simp only[cW]
    constructor<;>rintro(h|h|h)<;>simp[h]
   simp only[q] at fin;exact fin
  ·-- behind a
   obtain⟨φa,a0,a1,a2,_⟩:=G5 (t:=t) (t2:=t) (h:=h) (h2:=h) (call:=call) (fid:=fid) (path:=path) (i:=a.1) (nid:=a.2.1) (all:=all) r u B.a3 rfl (fun _ _=>rfl) (fun _ _ _ _ _ _=>rfl);unfold uD at e ⊢
   split at e<;>try (cases e; done)
   rename_i G;simp only[G];rw[a2] at e ⊢;obtain⟨⟨va,ea⟩,R,Y⟩:=ġ e;rw[R];simp only[ez];have J:=a1 _ R;have v:=a0 _ R;simp only at v Y;refine ahT u as _ _ _ (fun c H=>I c (by simp[H])) (fun s hs=>(uU (B.rb s hs) _).trans (Z s hs)) (fun j=>?_) (fun c H=>W c (by simp[H])) (fun c H=>hfar c (by simp[H])) (fun O x k id hi=>?_) Y
   ·refine(OZ fun p n d=>?_).trans (z j);rcases v p n with⟨h2,A⟩|⟨h2,A⟩
    ·exact W a (by simp) A j (h2.symm.trans d)
    ·exact J p.1 A (by rw[d]; exact z j)
   ·by_cases C:∃p∈ea,p.1=id
    ·obtain⟨p,n,d⟩:=C;rcases v p n with⟨h2,A⟩|⟨h2,A⟩
     ·exfalso;exact F A x k (by rw[m x k,<-h2,d]; exact hi)
     ·exact .inr ⟨(a.1,_),List.mem_cons_self ..,⟨a.2.2,B.ha,om.2 (.inl ⟨h2,O⟩),B.bab,B.bba⟩,d▸A⟩
    ·have V:lkB (aps ea h) id=lkB h id:=OZ fun p n d=>C ⟨p,n,d⟩;rw[V];rcases hinv O x k id hi with h2|⟨p,n,h2⟩
     ·exact .inl h2
     ·exact .inr ⟨p,by simp[n],h2⟩
section
variable {ν:Nat->Value} {w:World}
def VR0.refs {a:AV} {v:Value} (c:VR0 ν h w a v):∀id∈ā a,lkB h id≠.dead:=by
 intro id hi hd
 cases a<;>simp only[ā,cX,ff] at hi
 ·subst hi; obtain⟨_,t,g',fz,xs,b,_⟩:=c; rw[hd] at b; cases b
 ·subst hi; obtain⟨_,t,g',fz,xs,b,_⟩:=c; rw[hd] at b; cases b
 ·subst hi; obtain⟨_,t,g',fz,b,_⟩:=c; rw[hd] at b; cases b
 ·subst hi; obtain⟨_,_,b,_⟩:=c; rw[hd] at b; cases b
 ·subst hi; obtain⟨_,t,g',fz,xs,b,_⟩:=c; rw[hd] at b; cases b
 ·subst hi; obtain⟨_,k,g',xss,b,_⟩:=c; rw[hd] at b; cases b
 ·subst hi; obtain⟨_,k,g',xss,b,_⟩:=c; rw[hd] at b; cases b
 ·subst hi; obtain⟨_,k,g',xss,b,_⟩:=c; rw[hd] at b; cases b
 ·subst hi; obtain⟨_,k,g',xss,b,_⟩:=c; rw[hd] at b; cases b
 ·subst hi; obtain⟨_,es,b,_⟩:=c; rw[hd] at b; cases b
 ·subst hi; obtain⟨_,s,q,b,_⟩:=c; rw[hd] at b; cases b
def VR1.refs {a:AV} {v:Value} (b:VR1 ν h w a v):∀id∈ā a,lkB h id≠.dead:=by
 cases c:a.isFn with
 |true=>cases a<;>first|(cases c; done)|(intro id hi; cases hi)
 |false=>rw[sc c] at b; exact b.refs
def ò.left_mem {α β:Type} {R:α->β->Prop}:∀{l:AS α} {m:AS β},ò R l m->∀a∈l,∃b∈m,R a b
 |[],_,_,a,ha=>by cases ha
 |x::l,y::m,h,a,ha=>by
  rcases cW.1 ha with rfl|ha
  ·exact⟨y,by simp,h.1⟩
  ·obtain⟨b,hb,c⟩:=ò.left_mem h.2 a ha;exact⟨b,by simp[hb],c⟩
 |_::_,[],h,_,_=>h.elim
def VR.refs1 {a:AV} {v:Value} (j:VR ν h w a v):∀id∈Go.Am.refs1 a,lkB h id≠.dead:=by
 cases d:a.isAgg with
 |true =>
  cases a<;>try cases d
  obtain⟨us,_,h2⟩:=j;intro id hi;simp only[Go.Am.refs1,dN] at hi;obtain⟨c,i,hi⟩:=hi;obtain⟨u,_,b⟩:=h2.left_mem c i;exact b.1.refs id hi
 |false =>
  cases e:a.isTup with
  |true=>cases a<;>first|(cases e; done)|(intro id hi; cases hi)
  |false =>
   have k:=j.one d e;have h2:=k.refs
   cases a with
   |fn f fa fb =>
    obtain⟨fs,cs,_,m,l⟩:=k
    have one:∀c u,VR0 ν h w c u->∀id∈ab2 c,lkB h id≠.dead:=fun c u b id hi=>by
     cases c with
     |agg=>exact b.elim
     |_=>exact b.refs id hi
    intro id hi;simp only[Go.Am.refs1,cR,dN] at hi;rcases hi with⟨c,i,hi⟩|⟨c,i,hi⟩
    ·obtain⟨u,_,b⟩:=m.left_mem c i;exact one c u b id hi
    ·obtain⟨u,_,b⟩:=l.left_mem c i;exact one c u b id hi
   |agg=>cases d
   |_=>exact h2
def VR.refs2 (H:HR ν h w) {a:AV} {v:Value} (k:VR ν h w a v):∀id∈Go.Am.refs2 h a,lkB h id≠.dead:=by
 intro id hi;simp only[Go.Am.refs2,cR,dN] at hi;rcases hi with hi|⟨j,o,c,d,hi⟩
 ·exact k.refs1 id hi
 ·have i:=H.blk j
  cases f:lkB h j with
  |cells cs =>
   rw[f] at i d;obtain⟨b,n,e,_,_,m⟩:=i;obtain⟨u,_,l⟩:=m.left_mem c d;exact l.1.refs id hi
  |_=>rw[f] at d; cases d
end
end
end Go.Am
end

noncomputable section
namespace Go.Am
variable [ë] [Ð]
section
variable {ρ:Type} {ν:Nat->Value} {h:AS Blk} {w:World}
def aeO (acc:AS Nat) (o:Oper):Nat:=o.after.toList.foldl (fun s e=>if Region.binds .any e then s ||| 2 ^ e.on ||| acc.getD e.on 0 else s) 0
def EY:∀(os:AS Oper) (acc:AS Nat),∃l,Ţ os acc=acc++l/\∀(k:Nat) (o:Oper),os[k]?=some o->(acc++l).getD (acc.length+k) 0=aeO ((acc++l).take (acc.length+k)) o
 |[],acc=>⟨[],by simp[Ţ],by simp⟩
 |o::os,acc=>by
  obtain⟨l,b,h2⟩:=EY os (acc++[aeO acc o]);refine⟨aeO acc o::l,?_,?_⟩
  ·simp only[Ţ];show Ţ os (acc++[aeO acc o])=_;rw[b]; simp
  ·intro k o' a
   cases k with
   |zero =>
    simp only[fJ,Option.some.injEq] at a;subst a;simp[List.getD]
   |succ k =>
    have:=h2 k o' (by simpa using a);simp only[dj,List.singleton_append,cN,dF] at this;rw[show acc.length+(k+1)=acc.length+1+k by omega];exact this
def aeN {os:AS Oper} {k:Nat} {o:Oper} (a:os[k]?=some o):(Ţ os []).getD k 0=aeO ((Ţ os []).take k) o:=by
 obtain⟨l,b,h2⟩:=EY os [];rw[b];simpa using h2 k o a
def Qr {acc:AS Nat} {i:Nat}:∀(es:AS Edge) (s:Nat),(es.foldl (fun s e=>if Region.binds .any e then s ||| 2 ^ e.on ||| acc.getD e.on 0 else s) s).testBit i=true ->
 s.testBit i=true\/∃e∈es,Region.binds .any e=true/\(i=e.on\/(acc.getD e.on 0).testBit i=true)
 |[],s,h=>.inl h
 |e::es,s,h=>by
  simp only[fk] at h;rcases Qr es _ h with a|⟨c,b,a⟩
  ·split at a
   ·rename_i hb;simp only[Nat.testBit_or,Bool.or_eq_true,Nat.testBit_two_pow,decide_eq_true_eq] at a;rcases a with(a|a)|a
    ·exact .inl a
    ·exact .inr ⟨e,by simp,hb,.inl a.symm⟩
    ·exact .inr ⟨e,by simp,hb,.inr a⟩
   ·exact .inl a
  ·exact .inr ⟨c,by simp[b],a⟩
def wH {E:Env ρ} {all:AS Oper} {e:AS Nat}:∀{f:AS Oper} {c:Nat},xE E all e f c=true->∀(k:Nat) (b:Oper),f[k]?=some b->∀(i:Nat) (a:Oper),i<c+k->all[i]?=some a->agM E all a b=false\/(e.getD (c+k) 0).testBit i=true
 |[],_,_,k,b,d,_,_,_,_=>by simp at d
 |x::f,c,h,k,b,d,i,a,hi,ha=>by
  simp only[xE,cM,dw,List.mem_range] at h
  cases k with
  |zero =>
   simp only[fJ,Option.some.injEq] at d;subst d;have:=h.1 i (by omega);rw[ha] at this;simp only[Bool.or_eq_true,eI] at this;simpa using this
  |succ k =>
   have:=wH h.2 k b (by simpa using d) i a (by omega) ha
   rwa [show c+1+k=c+(k+1) by omega] at this
def tT:∀{os:AS Oper} {j:Nat},Vg os j=true->∀(k:Nat) (o:Oper),os[k]?=some o->∀e∈o.after,Region.binds .any e=true->e.on<j+k
 |[],_,_,k,o,a,_,_,_=>by simp at a
 |x::os,j,h,k,o,a,e,b,hb=>by
  simp only[Vg,cM,dw] at h
  cases k with
  |zero =>
   simp only[fJ,Option.some.injEq] at a;subst a;have:=h.1 e (by simpa using b);simp only[hb,dM,Bool.false_or,decide_eq_true_eq] at this;omega
  |succ k =>
   have:=tT h.2 k o (by simpa using a) e b hb;omega
def bef_lt {os:AS Oper} (hb:Vg os 0=true):∀(j i:Nat),((Ţ os []).getD j 0).testBit i=true->i<j:=by
 intro j
 induction j using Nat.strongRecOn with
 |ind j d =>
  intro i hi
  cases c:os[j]? with
  |none =>
   obtain⟨l,f,_⟩:=EY os []
   have b:∀(os:AS Oper) (acc:AS Nat),(Ţ os acc).length=acc.length+os.length:=by
    intro os
    induction os with
    |nil=>intro acc; simp[Ţ]
    |cons o os d=>intro acc; simp only[Ţ]; rw[d]; simp; omega
   have:(Ţ os [])[j]?=none:=by
    rw[List.getElem?_eq_none_iff] at c ⊢;rw[b]; simpa using c
   simp[List.getD,this] at hi
  |some o =>
   rw[aeN c] at hi;rcases Qr _ _ hi with k|⟨ed,f,h2,e⟩
   ·simp at k
   ·have a:=tT hb j o c ed (by simpa using f) h2;rw[dt] at a;rcases e with rfl|e
    ·exact a
    ·have:((Ţ os []).getD ed.on 0).testBit i=true:=by
      rw[<-e];congr 1;simp only[List.getD,dY];rw[if_pos (by omega)]
     exact Nat.lt_trans (d ed.on a i this) a
def oP {clone:Nat->Bool}:∀{os:AS Oper} {i nid:Nat} {x:Item},x∈mS clone os i nid->∃k,os[k]?=some x.2.2/\x.1=i+k/\nid<=x.2.1/\(û clone x.2.2.op=true->x.2.1<nid+η clone os)
 |[],_,_,_,b=>by cases b
 |o::os,i,nid,x,b=>by
  simp only[mS,cW] at b;rcases b with rfl|b
  ·exact⟨0,by simp,rfl,cJ _,fun h=>by rw[mc]; simp only at h; rw[h]; simp⟩
  ·obtain⟨k,e,h2,c,d⟩:=oP b;refine⟨k+1,by simpa using e,by omega,?_,fun h=>?_⟩
   ·cases a:û clone o.op<;>rw[a] at c<;>simp at c<;>omega
   ·have:=d h;rw[mc]
    cases a:û clone o.op<;>rw[a] at this<;>simp at this ⊢<;>omega
def CU {clone:Nat->Bool}:∀{os:AS Oper} {i nid k:Nat} {o:Oper},os[k]?=some o->∃n,(i+k,n,o)∈mS clone os i nid
 |[],_,_,k,_,h=>by simp at h
 |x::os,i,nid,0,o,h=>by
  simp only[fJ,Option.some.injEq] at h;subst h;exact⟨nid,by simp[mS]⟩
 |x::os,i,nid,k+1,o,h=>by
  obtain⟨n,a⟩:=CU (clone:=clone) (i:=i+1) (nid:=bif û clone x.op then nid+1 else nid) (os:=os) (k:=k) (o:=o) (by simpa using h);exact⟨n,by simp only[mS,cW]; right; rwa [show i+(k+1)=i+1+k by omega]⟩
def EB {clone:Nat->Bool}:∀{os:AS Oper} {i nid:Nat},(mS clone os i nid).Pairwise fun x y=>x.1<y.1/\(û clone x.2.2.op=true->x.2.1<y.2.1)
 |[],_,_=>List.Pairwise.nil
 |o::os,i,nid=>by
  refine List.Pairwise.cons (fun y c=>?_) EB;obtain⟨k,_,h2,b,_⟩:=oP c;refine⟨by simp only; omega,fun a=>?_⟩;simp only at a;rw[a] at b;simp at b ⊢;omega
def aaK {l:AS Item} {p e:Item->Bool} {b:Item} (k:l.Pairwise fun x y=>x.1<y.1) (hb:b∈l) (j:p b=true) (d:∀x∈l,e x=(p x&&x.1 != b.1)) :
 ∃as rest,l.filter p=as++b::rest/\l.filter e=as++rest/\∀a∈as,a∈l/\p a=true/\a.1<b.1:=by
 obtain⟨i,f,rfl⟩:=List.append_of_mem hb;rw[List.pairwise_append] at k;obtain⟨_,h2,o⟩:=k;have m:∀x∈i,x.1<b.1:=fun x c=>o x c b (by simp);have n:∀x∈f,b.1<x.1:=fun x c=>(dE.1 h2).1 x c;refine⟨i.filter p,f.filter p,by simp[j],?_,fun a ha=>?_⟩
 ·have s:i.filter e=i.filter p:=List.filter_congr fun x c=>by
   rw[d x (by simp[c])]
   have:(x.1 != b.1)=true:=by have:=m x c; simp; omega
   rw[this]; simp
  have r:f.filter e=f.filter p:=List.filter_congr fun x c=>by
   rw[d x (by simp[c])]
   have:(x.1 != b.1)=true:=by have:=n x c; simp; omega
   rw[this]; simp
  have q:e b=false:=by rw[d b (by simp)]; simp
  simp[s,r,q]
 ·rw[dV] at ha;exact⟨by simp[ha.1],ha.2,m a ha.1⟩
def XY {α:Type} {R:α->α->Prop}:∀{l:AS α},l.Pairwise R->∀x∈l,∀y∈l,x=y\/R x y\/R y x
 |[],_,_,b,_,_=>by cases b
 |z::l,h,x,b,y,a=>by
  rw[dE] at h;rcases cW.1 b with b|b
  ·rcases cW.1 a with a|a
   ·exact .inl (b.trans a.symm)
   ·rw[b]; exact .inr (.inl (h.1 y a))
  ·rcases cW.1 a with a|a
   ·rw[a]; exact .inr (.inr (h.1 x b))
   ·exact XY h.2 x b y a
def agz {E:Env ρ} {call:AS Nat->Bool->Nat->AS AV->AS Blk->(AV->AS Blk->AN ρ)->AN ρ} {L:Nat} (hE:jS E L call) {fid:Nat} {path:AS Nat} {d:Array Oper} (hp:path.length+1=L) (hg:pY d.toList d.toList=true)
 (hd:adU E d.toList=true) {base:Nat} {K:St->AN ρ} {r:ρ} {Q:Exit->Act->World->Prop} {m:Nat} (hmb:m<=base) :
 ∀(B:Nat) (c:Array Bool) (acc:AS (Nat×AS Nat)) (S:St) (a:Act) (ν:Nat->Value) (w:World),c.size=d.size ->
  (∀j i,c.getD j false=true->((Ţ d.toList []).getD j 0).testBit i=true->c.getD i false=true) ->
  ((mS E.clone d.toList 0 base).filter fun x=>!c.getD x.1 true).length=B->Sim ν S a w ->
  (∀x∈(mS E.clone d.toList 0 base).filter fun x=>!c.getD x.1 true,û E.clone x.2.2.op=true->x.2.1<S.h.length/\lkB S.h x.2.1=.dead)->m<=S.h.length ->
  XN E call fid path d.toList (Ţ d.toList []) ((mS E.clone d.toList 0 base).filter fun x=>!c.getD x.1 true) acc S K=some r ->
  (∀ν' W a' w',Sim ν' W a' w'->Ev m ν S.h w ν' W.h w'->m<=W.h.length->Dd m S.h W.h->K W=some r->Q .normal a' w') ->
  wpAnyIn fen 0 E.P .any d Q B c a w:=by
 simp only[adU,cM] at hd;obtain⟨F,hdr⟩:=hd
 have A:∀{c:Array Bool} {j:Nat},c.size=d.size->j<d.size->c.getD j true=c.getD j false:=fun {c j} hs hj=>by
  have:j<c.size:=by omega
  simp[this]
 have hpw:=(EB (clone:=E.clone) (os:=d.toList) (i:=0) (nid:=base)).imp fun {x y} h=>h.1;intro B
 induction B with
 |zero =>
  intro c acc S a ν w O hcl z H q hm e hQ;have Y:=dg.1 z;refine⟨?_,?_⟩
  ·rw[List.eq_nil_iff_forall_not_mem];intro j hj;obtain⟨h0,o,ho,_⟩:=mem_ready.1 hj;obtain⟨n,hn⟩:=CU (clone:=E.clone) (i:=0) (nid:=base) (os:=d.toList) (k:=j) (o:=o) (by simpa using ho);have:(0+j,n,o)∈(mS E.clone d.toList 0 base).filter fun x=>!c.getD x.1 true:=dV.2 ⟨hn,by simp only[dt]; rw[h0]; rfl⟩;rw[Y] at this;cases this
  ·rw[Y] at e;exact hQ ν S a w H (Ev.refl _ _ _ _) hm (Dd.refl _ _) e
 |succ B ih =>
  intro c acc S a ν w O hcl z H q hm e hQ;refine⟨fun hr=>?_,fun j hj=>?_⟩
  ·-- the first of those that are left is ready
   exfalso
   cases f:(mS E.clone d.toList 0 base).filter fun x=>!c.getD x.1 true with
   |nil=>rw[f] at z; simp at z
   |cons x l =>
    have p:x∈(mS E.clone d.toList 0 base).filter fun x=>!c.getD x.1 true:=by rw[f]; simp
    rw[dV] at p;obtain⟨k,s,h2,_⟩:=oP p.1
    have hk:x.1=k:=by omega
    have G:x.1∈Region.ready .any d c:=mem_ready.2 ⟨by simpa using p.2,x.2.2,by rw[hk]; simpa using s,fun ed hed hb=>by
     have hlt:=tT F k x.2.2 s ed hed hb
     have hks:k<d.size:=by
      have:=(cO.1 s).1;simpa using this
     cases hl:c.getD ed.on false with
     |true=>rfl
     |false =>
      exfalso;obtain⟨o',ho'⟩:∃o',d.toList[ed.on]?=some o':=⟨_,cI (by simp; omega)⟩;obtain⟨n,hn⟩:=CU (clone:=E.clone) (i:=0) (nid:=base) ho'
      have U:(0+ed.on,n,o')∈x::l:=by
       rw[<-f];refine dV.2 ⟨hn,?_⟩;simp only[dt];rw[A O (by omega),hl];rfl
      have hpl:(x::l).Pairwise fun x y=>x.1<y.1:=by rw[<-f]; exact hpw.filter _
      rcases cW.1 U with V|V
      ·rw[<-V] at hk; simp at hk; omega
      ·have:=(dE.1 hpl).1 _ V
       simp only at this; omega⟩
    rw[hr] at G;cases G
  ·obtain⟨h0,o,ho,hed⟩:=mem_ready.1 hj;have hjs:j<d.size:=(ee.1 ho).1
   have N:d.toList[j]?=some o:=by simpa using ho
   obtain⟨n,hn⟩:=CU (clone:=E.clone) (i:=0) (nid:=base) N;rw[dt] at hn
   have hpp:∀x∈mS E.clone d.toList 0 base,(fun x:Item=>!(c.setIfInBounds j true).getD x.1 true) x=((fun x:Item=>!c.getD x.1 true) x&&x.1 != j):=fun x p=>by
    by_cases J:x.1=j
    ·simp only[J]
     have:j<c.size:=by omega
     simp[this]
    ·have s:(c.setIfInBounds j true).getD x.1 true=c.getD x.1 true:=getD_set_ne true (Ne.symm J)
     have h2:(x.1 != j)=true:=by simpa using J
     simp only[s,h2,Bool.and_true]
   obtain⟨as,rest,f1,f2,f3⟩:=aaK (b:=(j,n,o)) hpw hn (by simp only[h0]; rfl) hpp
   have hbit:∀i,((Ţ d.toList []).getD j 0).testBit i=true->c.getD i false=true:=fun i hi=>by
    rw[aeN N] at hi;rcases Qr _ _ hi with hz|⟨ed,s,h2,V⟩
    ·simp at hz
    ·have hl:=hed ed (by simpa using s) h2;rcases V with rfl|V
     ·exact hl
     ·refine hcl ed.on i hl ?_;have hlt:=tT F j o N ed (by simpa using s) h2;rw[<-V];congr 1;simp only[List.getD,dY];rw[if_pos (by omega)]
   have R:=EB (clone:=E.clone) (os:=d.toList) (i:=0) (nid:=base)
   have C:((j,n,o):Item)∈(mS E.clone d.toList 0 base).filter fun x=>!c.getD x.1 true:=by rw[f1]; simp
   have hne:∀x∈(mS E.clone d.toList 0 base).filter (fun x=>!c.getD x.1 true),x≠(j,n,o)->û E.clone x.2.2.op=true->û E.clone o.op=true->x.2.1≠n:=fun x p J s h2=>by
    have hsub:((mS E.clone d.toList 0 base).filter fun x=>!c.getD x.1 true).Pairwise fun x y=>x.1<y.1/\(û E.clone x.2.2.op=true->x.2.1<y.2.1):=R.filter _;rcases XY hsub x p _ C with he|hr|hr
    ·exact absurd he J
    ·exact fG (hr.2 s)
    ·exact(fG (hr.2 h2)).symm
   rw[f1] at e
   have e':=ahT (b:=(j,n,o)) (h0:=S.h) (t0:=S.t) (K:=K) (r:=r) hE.pureEq as acc S.t S.h (fun x p=>by
    obtain⟨g1,g2,g3⟩:=f3 x p;obtain⟨k,s,h2,_⟩:=oP g1
    have hk:x.1=k:=by omega
    have hkj:k<j:=by simp only at g3; omega
    have hnb:((Ţ d.toList []).getD j 0).testBit k=false:=by
     cases hb:((Ţ d.toList []).getD j 0).testBit k with
     |false=>rfl
     |true =>
      exfalso;have hl:=hbit k hb;simp only[eI] at g2;rw[A O (by omega),hk,hl] at g2;cases g2
    have Z:((Ţ d.toList []).getD k 0).testBit j=false:=by
     cases hb:((Ţ d.toList []).getD k 0).testBit j with
     |false=>rfl
     |true=>have:=bef_lt F k j hb; omega
    have:=wH hdr j o N k x.2.2 (by omega) s;rw[dt,hnb] at this;rw[<-hk] at s hnb Z
    exact WZ (this.resolve_right (by simp)) s N hnb Z)
    (fun _ _=>rfl)
    (fun I=>(q _ C I).2)
    (fun x p s h2=>hne x (by rw[f1]; simp[p]) (fun he=>by
     have:=(f3 x p).2.2;rw[he] at this
     simp at this) s h2)
    (fun x p s y hy hmem=>VR.refs2 H.heap (Ć H y) _ hmem ((q x (by rw[f1]; simp[p]) s).2)) (fun _ _ _ _ _=>.inl rfl) e
   simp only[XN,uD] at e'
   split at e'<;>try (cases e'; done)
   refine HH hE.call hE.plain hE.clone hE.yld hg hp ho H (fun I=>q _ C I) e' fun ν' w' u v W g1 g2 g3 g4 g5 g6 g7=>?_;have f:((mS E.clone d.toList 0 base).filter fun x=>!(c.setIfInBounds j true).getD x.1 true)=as++rest:=f2
   have U:∀x∈as++rest,x∈(mS E.clone d.toList 0 base).filter fun x=>!c.getD x.1 true:=fun x p=>by
    rw[f1]
    rcases cR.1 p with p|p<;>simp[p]
   have hnj:∀x∈as++rest,x≠(j,n,o):=fun x p he=>by
    rw[<-f,dV] at p;rw[he] at p
    have hlt:j<c.size:=by omega
    simp[hlt] at p
   have hm':m<=W.h.length:=dc hm g4;refine ih (c.setIfInBounds j true) ((j,uL E d.toList o S)::acc) {t:=õ W.t o.dst v,h:=W.h} _ ν' w' (by simpa using O) (fun j' i s h2=>?_) ?_ ?_ (fun x p I=>?_) hm' ?_ fun ν'' S'' a'' w'' q1 q2 q3 q4 q5=>hQ ν'' S'' a'' w'' q1 ((g3.mono hm).trans q2 (cJ _)) q3 (fun i hi hdi=>q4 i hi ?_) q5
   ·by_cases hjj:j=j'
    ·subst hjj;exact getD_set_true (hbit i h2)
    ·rw[getD_set_ne false hjj] at s;exact getD_set_true (hcl j' i s h2)
   ·rw[f];rw[f1] at z;simp only[cN,cY] at z ⊢;omega
   ·rw[g6];exact H.put g3 g2 o.dst g1
   ·rw[f] at p;obtain⟨s,h2⟩:=q x (U x p) I;refine⟨by simp only; omega,g5 _ s ?_ h2⟩
    by_cases T:û E.clone o.op=true
    ·exact .inl (hne x (U x p) (hnj x p) I T)
    ·exact .inr (by simpa using T)
   ·rw[f];exact g7
   ·refine g5 i (by omega) ?_ hdi
    by_cases T:û E.clone o.op=true
    ·left;obtain⟨k,_,_,V,_⟩:=oP hn;simp only at V;show i≠n;omega
    ·exact .inr (by simpa using T)
def lO {E:Env ρ} (hmix:E.P.follows .mixedOrders=true) (L:Nat) (call:AS Nat->Bool->Nat->AS AV->AS Blk->(AV->AS Blk->AN ρ)->AN ρ) (B:jS E L call):nh E L call:=by
 intro fid rid path b S a K r m ν w y e H z;unfold HO at e
 split at e<;>try (cases e; done)
 rename_i q;simp only[eJ,gk,fc] at q;apply wpIn_region_any hmix;have c:=fun id=>Qe S.h (η E.clone b.toList) id;have T:Sim ν {t:=S.t,h:=S.h++List.replicate (η E.clone b.toList) .dead} a {w with drawn:=w.drawn+1}:=H.same c rfl rfl rfl rfl;have u:Ev m ν S.h w ν (S.h++List.replicate (η E.clone b.toList) .dead) {w with drawn:=w.drawn+1}:=Ev.same (w:=w) (w':={w with drawn:=w.drawn+1}) c rfl rfl rfl rfl m
 have d:((mS E.clone b.toList 0 S.h.length).filter fun x=>!(Array.replicate b.size false).getD x.1 true)=mS E.clone b.toList 0 S.h.length:=by
  rw[List.filter_eq_self];intro x l;obtain⟨k,n,h2,_⟩:=oP l
  have p:k<b.size:=by
   have:=(cO.1 n).1;simpa using this
  have:x.1=k:=by omega
  simp[this,p]
 have f:∀(os:AS Oper) (i nid:Nat),(mS E.clone os i nid).length=os.length:=by
  intro os
  induction os with
  |nil=>intros; rfl
  |cons o os v=>intro i nid; simp[mS,v]
 refine agz (fid:=fid) (base:=S.h.length) (K:=K .normal) (r:=r) B y q.2 q.1 z b.size _ [] {t:=S.t,h:=S.h++List.replicate (η E.clone b.toList) .dead} a ν _ (by simp) (fun j i n _=>?_) ?_ T (fun x l s=>?_) ?_ ?_ fun ν' R U w' O N J I G=>⟨ν',R,O,u.trans N (cJ _),J,fun j A hd=>I j A (by simp only[c]; exact hd),G⟩
 ·exfalso;rcases dC j b.size with h|h
  ·simp[h] at n
  ·simp[h] at n
 ·rw[d,f]; simp
 ·rw[d] at l;obtain⟨k,_,_,F,C⟩:=oP l;have:=C s;refine⟨by simp; omega,?_⟩;simp only[c];exact FP _ _ F
 ·simp; omega
 ·rw[d,<-SK];exact e
end
end Go.Am
end
