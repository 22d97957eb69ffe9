/- lemmas -/
import Derived.Test.YtenljaeklhlanaaGreatAmA
import Derived.OrdersIn
import Derived.RangeFuncSeq
import Derived.RangeFuncRecord
import Derived.LoopNIn
import Derived.RangeFuncLeaves
set_option linter.all false
noncomputable section
namespace Go.Am
variable [Ghost]
section
variable {ν ν':Nat->Value} {w w':World} {P:Program}
def afN (ν:Nat->Value) (S:St) (w:World) (r:Result Next) (v:AV) (b:St):Prop :=
 ∃ν' w' u,(r=.ok (.value u) w'\/(r=.ok .skip w'/\u=undef))/\VR ν' b.h w' v u/\HR ν' b.h w'/\Ev S.h.length ν S.h w ν' b.h w'/\b.h.length=S.h.length/\b.t=S.t
def jA.step {S:St} {x:Sem Value} {v:AV} {h':CK Blk} (hd:jA P ν S.h w x v h') :
 afN ν S w ((do let u <-x; pure (.value u):Sem Next).run P w) v {t:=S.t,h:=h'}:=by
 obtain⟨ν',w',u,e,h2,d,c,b⟩:=hd;refine⟨ν',w',u,.inl ?_,h2,d,c,b,rfl⟩;simp[e]
def afN.still {S:St} {r:Result Next} {v:AV} {u:Value} (H:HR ν S.h w) (c:r=.ok (.value u) w) (b:VR ν S.h w v u):afN ν S w r v S :=
 ⟨ν,w,u,.inl c,b,H,Ev.refl _ _ _ _,rfl,rfl⟩
def W7 {S:St} {x:Sem Unit} {h':CK Blk} (hd:∃w',x.run P w=.ok () w'/\HR ν h' w'/\Ev S.h.length ν S.h w ν h' w'/\h'.length=S.h.length) :
 afN ν S w ((do x; pure .skip:Sem Next).run P w) .any {t:=S.t,h:=h'}:=by
 obtain⟨w',e,d,c,b⟩:=hd;refine⟨ν,w',undef,.inr ⟨?_,rfl⟩,trivial,d,c,b,rfl⟩;simp[e]
def ahY {a:AV} {v:Value} {h:CK Blk} (hi:isV0 a=true) (b:VR ν h w a v):VR0 ν h w a v:=by
 have d:a.isFn=false:=by cases a<;>first|rfl|cases hi
 have h2:a.isAgg=false:=by cases a<;>first|rfl|cases hi
 have c:a.isTup=false:=by cases a<;>first|rfl|cases hi
 rwa [yL c,Bb h2,yB d] at b
def Ē.of_map {α β γ:Type} {R:β->γ->Prop} {f:α->β} {g:α->γ}:∀{l:CK α},(∀x∈l,R (f x) (g x))->Ē R (l.map f) (l.map g)
 |[],_=>trivial
 |x::l,h=>⟨h x (by simp),Ē.of_map fun y b=>h y (by simp[b])⟩
def akm (k:IntKind) (a b:Int):(Builtin.max2 (.int k a) (.int k b)).run P w=.ok (.int k (R0 a b)) w:=rfl
def akl (k:IntKind) (a b:Int):(Builtin.min2 (.int k a) (.int k b)).run P w=.ok (.int k (abf a b)) w:=rfl
def agw {S:St} {a:Act} {x y:Operand} (h:Ee x y=true):a.eval x=a.eval y:=by
 unfold Ee at h
 split at h
 ·have:=eq_of_beq h; subst this; rfl
 ·have:=of_decide_eq_true h; subst this; rfl
 ·cases h
def iR {α β:Type} {x:BY α} {f:α->BY β} {r:β} (h:x.bind f=some r):∃a,x=some a/\f a=some r:=by
 cases x with
 |none=>cases h
 |some a=>exact⟨a,rfl,h⟩
def arr1 {α:Type} {a:Array α} {x:α} (h:a.toList=[x]):a=#[x]:=fq (by simpa using h)
def arr2 {α:Type} {a:Array α} {x y:α} (h:a.toList=[x,y]):a=#[x,y]:=fq (by simpa using h)
def lV {S:St} {a:Act} {o:Oper} {b:Builtin} {d:Array Operand} {tys:Array TypeId} {f:Array TypeId->TypeId->Array Value->Sem Value} (e:o.op=.call ⟨.builtin b,d,tys⟩)
 (hb:∀c vs,builtin b tys o.type c vs=(do pure (.value (<-f tys o.type vs)):Sem Next)) :
 execOp a.eval o=(do let u <-f tys o.type (d.map a.eval); pure (.value u)):=by
 unfold execOp;rw[e];simp only[resolve,pure_bind,invoke,hb]
def akt {S S':St} {a:Act} {o:Oper} {nid:Nat} {eat:Bool} {v:AV} {clone:Nat->Bool} (H:Sim ν S a w) (hn:Ĕ clone o.op=true->nid<S.h.length/\lkB S.h nid=.dead)
 (e:opR P S nid eat o.op=some (v,S')):afN ν S w ((execOp a.eval o).run P w) v S':=by
 have I:=H.heap
 cases A:o.op with
 |move x =>
  rw[A] at e; cases e;exact afN.still I (by unfold execOp; rw[A]; rfl) (Ő H x)
 |assign x =>
  rw[A] at e; cases e;exact afN.still I (by unfold execOp; rw[A]; rfl) (Ő H x)
 |pick c x y =>
  rw[A] at e;simp only[opR,opK] at e
  split at e<;>try (cases e; done)
  rename_i b hb;have N:=Ő H c;rw[hb] at N;have N:a.eval c=.bool b:=N
  have C:(execOp a.eval o).run P w=.ok (.value (if b then a.eval x else a.eval y)) w:=by unfold execOp; rw[A]; simp[asBool,N]
  split at e
  ·cases e; exact afN.still I C (Ő H x)
  ·cases e; exact afN.still I C (Ő H y)
 |box el x =>
  rw[A] at e;simp only[opR,opK] at e
  split at e<;>try (cases e; done)
  rename_i cs O
  have C:execOp a.eval o=(do let u <-Instr.box el (a.eval x); pure (.value u)):=by unfold execOp; rw[A]
  rw[C]
  split at e
  ·split at e<;>try (cases e; done)
   split at e<;>try (cases e; done)
   rename_i y U;cases e;exact(anC I O U (Ő H x)).step
  ·cases e;obtain⟨E,h2⟩:=hn (by rw[A]; rfl);exact(box_ok I E h2 O (Ő H x)).step
 |alloc el =>
  rw[A] at e;simp only[opR,opK] at e
  split at e<;>try (cases e; done)
  rename_i z hz
  split at e<;>try (cases e; done)
  rename_i cs O;cases e;obtain⟨E,h2⟩:=hn (by rw[A]; rfl)
  have C:execOp a.eval o=(do let u <-Instr.alloc el true (.tuple #[]); pure (.value u)):=by unfold execOp; rw[A]
  rw[C];exact(alJ I E h2 hz O).step
 |build t ps =>
  rw[A] at e;simp only[opR,opK] at e
  have C:execOp a.eval o=(do let u <-Instr.build t (ps.map fun(i,x)=>(i,a.eval x)); pure (.value u)):=by unfold execOp; rw[A]
  rw[C]
  split at e<;>try (cases e; done)
  ·rename_i fs K
   split at e<;>try (cases e; done)
   rename_i hfs
   split at e<;>try (cases e; done)
   rename_i z hz
   split at e<;>try (cases e; done)
   rename_i zs W
   split at e<;>try (cases e; done)
   rename_i cs O;cases e;exact(Sk H K hfs hz W O).step
  ·rename_i n el K
   split at e<;>try (cases e; done)
   rename_i sz z Z hz
   split at e<;>try (cases e; done)
   rename_i zs W
   split at e<;>try (cases e; done)
   rename_i cs O;cases e;exact(abK H K Z hz W O).step
 |buildSlice t n ps =>
  rw[A] at e
  have C:execOp a.eval o=(do let u <-Instr.buildSlice t n (ps.map fun(i,x)=>(i,a.eval x)); pure (.value u)):=by unfold execOp; rw[A]
  rw[C];obtain⟨E,h2⟩:=hn (by rw[A]; rfl);simp only[opR,opK] at e
  split at e<;>try (cases e; done)
  rename_i el hel
  split at e<;>try (cases e; done)
  rename_i ty hty
  split at e<;>try (cases e; done)
  rename_i N;simp only[cY,beq_iff_eq,decide_eq_true_eq] at N
  split at e<;>try (cases e; done)
  rename_i xs hxs;cases e;exact(WF H E h2 hel N.1 N.2.1 N.2.2 hxs).step
 |load t x =>
  rw[A] at e;simp only[opR,opK] at e;rw[we] at e;obtain⟨R,E,h2⟩:=iR e;cases h2
  have C:execOp a.eval o=(do let u <-Instr.loadAt t (a.eval x); pure (.value u)):=by unfold execOp; rw[A]
  rw[C];obtain⟨u,L,V⟩:=ahM I E (Ő H x);exact(jA.still I L V).step
 |store t x y =>
  rw[A] at e;simp only[opR,opK] at e
  have C:execOp a.eval o=(do Instr.storeAt t (a.eval x) (a.eval y); pure .skip):=by unfold execOp; rw[A]
  rw[C]
  split at e
  ·split at e<;>try (cases e; done)
   rename_i id g lo n hsub
   split at e<;>try (cases e; done)
   rename_i ty g' xs hl
   split at e<;>try (cases e; done)
   rename_i N;simp only[cY,beq_iff_eq,decide_eq_true_eq] at N;obtain⟨rfl,hln⟩:=N;rw[qB] at e;obtain⟨h',E,h2⟩:=iR e;cases h2;have U:=Ő H y;rw[hsub] at U;obtain⟨ν1,v1,H1,ev1⟩:=ano I hl hln U;obtain⟨w',k1,k2,k3,k4⟩:=aca H1 E ((Ő H x).ev ev1) v1;refine⟨ν1,w',undef,.inr ⟨?_,rfl⟩,trivial,k2,ev1.trans k3 (gY (ä _ _ _).symm),k4.trans (ä _ _ _),rfl⟩;simp[k1]
  ·rw[qB] at e;obtain⟨h',E,h2⟩:=iR e;cases h2;exact W7 (aca I E (Ő H x) (Ő H y))
 |nilCheck x =>
  rw[A] at e;simp only[opR,opK] at e;have G:=Ő H x
  split at e<;>try (cases e; done)
  ·rename_i id off he;cases e;rw[he] at G;have T:=G;obtain⟨cs,b,E,h2,L⟩:=T;exact afN.still I (by unfold execOp; rw[A]; simp only[L]; rfl) (L▸G)
  ·rename_i t x' off he;cases e;rw[he] at G;have T:=G;obtain⟨b,o',us,L,V⟩:=T;exact afN.still I (by unfold execOp; rw[A]; simp only[L]; rfl) (L▸G)
  ·rename_i id g i off he
   split at e<;>try (cases e; done)
   rename_i t g' fz xs hl
   split at e<;>try (cases e; done)
   rename_i hgg;cases e;rw[he] at G;have T:=G;obtain⟨ho,t2,g2,fz2,xs2,hl2,hle,hf⟩:=T;rw[hl] at hl2; cases hl2;obtain⟨_,b,o',cap,_,L⟩:=hf (eq_of_beq hgg);exact afN.still I (by unfold execOp; rw[A]; simp only[L]; rfl) (L▸G)
 |binOp op t x y yt =>
  rw[A] at e;simp only[opR,opK] at e;rw[Ca] at e;obtain⟨R,E,h2⟩:=iR e;cases h2
  have C:execOp a.eval o=(do let u <-(do eqGuard op t x y (a.eval x) (a.eval y); binOp op t (a.eval x) (a.eval y)); pure (.value u)):=by unfold execOp; rw[A]
  rw[C];exact(alC x y I E (Ő H x) (Ő H y)).step
 |unOp op t x =>
  rw[A] at e;simp only[opR,opK] at e
  have C:execOp a.eval o=(do let u <-Op.unary op (a.eval x); pure (.value u)):=by unfold execOp; rw[A]
  rw[C];have G:=Ő H x
  split at e<;>try (cases e; done)
  ·rename_i b he;cases e;rw[he] at G;exact(aga (op:=.not) I G rfl).step
  ·rename_i k n he;rw[Fh] at e;obtain⟨R,E,h2⟩:=iR e;cases h2;rw[he] at G;exact(aga (op:=.neg) I G E).step
 |convert src dst x =>
  rw[A] at e;simp only[opR,opK] at e
  have C:execOp a.eval o=(do let u <-convert src dst (a.eval x); pure (.value u)):=by unfold execOp; rw[A]
  rw[C];have G:=Ő H x
  split at e<;>try (cases e; done)
  rename_i d k k' n Z hd he;cases e;rw[he] at G;have G:a.eval x=.int k' n:=G;refine(jA.still (v:=.int k (k.wrap n)) (u:=.int k (k.wrap n)) I ?_ rfl).step;rw[G];simp only[convert,Sem.run_bind,run_underlying Z,run_underlying hd,Result.andThen_ok];simp[Conv.intToInt]
 |makeFunc fn first caps =>
  rw[A] at e;simp only[opR,opK] at e
  split at e<;>try (cases e; done)
  rename_i N;simp only[cY,dG] at N;cases e
  have C:execOp a.eval o=(do let u <-Instr.makeFunc fn (first.map a.eval) (caps.map a.eval); pure (.value u)):=by unfold execOp; rw[A]
  rw[C];refine(jA.still (v:=.fn fn (first.toList.map (ev S.t)) (caps.toList.map (ev S.t))) (u:=.func fn (first.map a.eval) (caps.map a.eval)) I rfl ⟨_,_,rfl,?_,?_⟩).step
  ·rw[gi];exact Ē.of_map fun x C=>ahY (N.1 _ (List.mem_map_of_mem C)) (Ő H x)
  ·rw[gi];exact Ē.of_map fun x C=>ahY (N.2 _ (List.mem_map_of_mem C)) (Ő H x)
 |makeMap t r =>
  rw[A] at e;simp only[opR,opK] at e
  split at e<;>try (cases e; done)
  rename_i kt et K
  split at e<;>try (cases e; done)
  rename_i k R hk G
  split at e<;>try (cases e; done)
  cases e;obtain⟨E,h2⟩:=hn (by rw[A]; rfl)
  have C:execOp a.eval o=(do let u <-Instr.makeMap t none; pure (.value u)):=by unfold execOp; rw[A]; rfl
  rw[C];exact(aeH k R I E h2).step
 |makeSlice t l c =>
  rw[A] at e;simp only[opR,opK] at e
  split at e<;>try (cases e; done)
  rename_i k n el hsame hl hel
  split at e<;>try (cases e; done)
  rename_i ty hty
  split at e<;>try (cases e; done)
  rename_i hrow
  split at e<;>try (cases e; done)
  rename_i zs W
  split at e<;>try (cases e; done)
  rename_i z hz
  split at e<;>try (cases e; done)
  rename_i hb;simp only[cY,decide_eq_true_eq,ã] at hb;cases e;obtain⟨E,h2⟩:=hn (by rw[A]; rfl);have G:=Ő H l;rw[hl] at G;have G:a.eval l=.int k n:=G
  have N:a.eval c=.int k n:=by rw[<-agw (S:=S) hsame,G]
  have C:execOp a.eval o=(do let u <-Instr.makeSlice t (.int k n) (.int k n); pure (.value u)):=by unfold execOp; rw[A]; simp only[G,N]
  rw[C];exact(Yl I E h2 hel hrow W hz hb.1 hb.2).step
 |slice t x lo hi mx =>
  rw[A] at e;simp only[opR,opK] at e
  split at e<;>try (cases e; done)
  rename_i el K
  split at e<;>try (cases e; done)
  rename_i sz Z;rw[Bh] at e;obtain⟨⟨R,h'⟩,E,h2⟩:=iR e;cases h2
  have C:execOp a.eval o=(do let u <-Instr.sliceAt t (a.eval x) (lo.map a.eval) (hi.map a.eval) none; pure (.value u)):=by unfold execOp; rw[A]; rfl
  rw[C];refine(akb I K Z E (Ő H x) (fun y U=>?_) (fun U=>?_) (fun y U=>?_) (fun U=>?_)).step
  ·cases lo with
   |none=>cases U
   |some l=>cases U; exact⟨_,rfl,Ő H l⟩
  ·cases lo with
   |none=>rfl
   |some l=>cases U
  ·cases hi with
   |none=>cases U
   |some l=>cases U; exact⟨_,rfl,Ő H l⟩
  ·cases hi with
   |none=>rfl
   |some l=>cases U
 |fieldAddr t x f =>
  rw[A] at e;simp only[opR,opK] at e
  split at e<;>try (cases e; done)
  rename_i fs K
  split at e<;>try (cases e; done)
  rename_i fd hf
  split at e<;>try (cases e; done)
  rename_i n Z;rw[qD] at e;obtain⟨R,E,h2⟩:=iR e;cases h2
  have C:execOp a.eval o=(do let u <-Instr.fieldAt t (a.eval x) f; pure (.value u)):=by unfold execOp; rw[A]
  rw[C];exact(ZK I K hf Z E (Ő H x)).step
 |field t x f =>
  rw[A] at e;simp only[opR,opK] at e;have G:=Ő H x
  split at e<;>try (cases e; done)
  rename_i fs cs K N
  split at e<;>try (cases e; done)
  rename_i fd hf
  split at e<;>try (cases e; done)
  rename_i agg n hl
  split at e<;>try (cases e; done)
  rename_i ds hg
  split at e<;>try (cases e; done)
  rename_i R hm;cases e;rw[N] at G
  have C:execOp a.eval o=(do let u <-Instr.field t (a.eval x) f; pure (.value u)):=by unfold execOp; rw[A]
  rw[C];exact(akZ I K hf hl hg hm G).step
 |indexAddr t x i =>
  rw[A] at e;simp only[opR,opK] at e
  have C:execOp a.eval o=(do let u <-Instr.indexAt t (a.eval x) (a.eval i); pure (.value u)):=by unfold execOp; rw[A]
  rw[C]
  split at e<;>try (cases e; done)
  ·rename_i el K
   split at e<;>try (cases e; done)
   rename_i sz Z;rw[qK] at e;obtain⟨R,E,h2⟩:=iR e;cases h2;exact(akQ I K Z E (Ő H x) (Ő H i)).step
  ·rename_i n el K;have G:=Ő H x;have hi:=Ő H i
   split at e<;>try (cases e; done)
   rename_i id off k j hx' hi'
   split at e<;>try (cases e; done)
   rename_i sz Z;rw[jp] at e;obtain⟨q,E,h2⟩:=iR e;obtain⟨rfl,_,hb⟩:=I9 E;cases h2;rw[hx'] at G;rw[hi'] at hi;have hi:a.eval i=.int k (q:Int):=hi;rw[hi];have:=(PE I K (j:=(q:Int)) (k:=k) ⟨by omega,by omega⟩ Z G).step;simpa using this
 |index t x i =>
  rw[A] at e;simp only[opR,opK] at e
  have C:execOp a.eval o=(do let u <-Instr.index t (a.eval x) (a.eval i); pure (.value u)):=by unfold execOp; rw[A]
  rw[C];have G:=Ő H x;have hi:=Ő H i
  split at e<;>try (cases e; done)
  rename_i n el cs k j K hx' hi';rw[jp] at e;obtain⟨q,E,h2⟩:=iR e;obtain⟨rfl,_,hb⟩:=I9 E
  split at h2<;>try (cases h2; done)
  rename_i agg m hl
  split at h2<;>try (cases h2; done)
  rename_i ds hg
  split at h2<;>try (cases h2; done)
  rename_i R hm;cases h2;rw[hx'] at G;rw[hi'] at hi;have hi:a.eval i=.int k (q:Int):=hi;rw[hi];exact(abe I K (j:=(q:Int)) (k:=k) ⟨by omega,by omega⟩ hl (by simpa using hg) hm G).step
 |lookup t m i ok =>
  rw[A] at e;simp only[opR,opK] at e;rw[nR] at e;obtain⟨R,E,h2⟩:=iR e;cases h2
  have C:execOp a.eval o=(do let u <-Instr.lookup t (a.eval m) (a.eval i) ok; pure (.value u)):=by unfold execOp; rw[A]
  rw[C];exact(ahE I E (Ő H m) (Ő H i)).step
 |mapUpdate t m i x =>
  rw[A] at e;simp only[opR,opK] at e;rw[oi] at e;obtain⟨h',E,h2⟩:=iR e;cases h2
  have C:execOp a.eval o=(do Instr.mapUpdate t (a.eval m) (a.eval i) (a.eval x); pure .skip):=by unfold execOp; rw[A]
  rw[C];exact W7 (Yj I E (Ő H m) (Ő H i) (Ő H x))
 |extract x i =>
  rw[A] at e;simp only[opR,opK] at e;have G:=Ő H x
  split at e<;>try (cases e; done)
  rename_i vs hvs
  split at e<;>try (cases e; done)
  rename_i R T;cases e;rw[hvs] at G;obtain⟨us,hu,h2⟩:=G;obtain⟨u,L,V⟩:=h2.get T;refine afN.still I (u:=u) (by unfold execOp; rw[A]; simp only[hu]; simp at L; simp[Instr.extract,L]) ?_
  cases K:v.isTup with
  |true =>
   cases v<;>try cases K
   exact V.elim
  |false=>rw[yL K]; exact V
 |call c =>
  obtain⟨f,args,tys⟩:=c;rw[A] at e
  cases f with
  |value f=>cases e
  |invoke r n=>cases e
  |builtin b =>
   simp only[opR,opK] at e
   split at e
   ·-- len
    rename_i x t rest B J;rw[Bv] at e;obtain⟨R,E,h2⟩:=iR e;cases h2;rw[lV (S:=S) (f:=Builtin.len_) A (fun _ _=>rfl),arr1 B,show Array.map a.eval #[x]=#[a.eval x] by simp]
    have Y:tys[0]?=some t:=by rw[<-gG,J]; rfl
    exact(len_ok I E (Ő H x) Y).step
   ·rename_i s x t t' B J;obtain⟨E,h2⟩:=hn (by rw[A]; rfl);rw[lV (S:=S) (f:=Builtin.append_) A (fun _ _=>rfl),arr2 B,arr2 J,show Array.map a.eval #[s,x]=#[a.eval s,a.eval x] by simp]
    split at e
    ·rename_i htt;have htt:=eq_of_beq htt;subst htt;rw[yl] at e;obtain⟨⟨R,h'⟩,L,V⟩:=iR e;cases V;exact(ajy I E h2 L (Ő H s) (Ő H x)).step
    ·split at e<;>try (cases e; done)
     rename_i hu;rw[Be] at e;obtain⟨⟨R,h'⟩,L,V⟩:=iR e;cases V;exact(aj0 I E h2 hu L (Ő H s) (Ő H x)).step
   ·rename_i x t B J
    split at e<;>try (cases e; done)
    rename_i d hd;rw[B4] at e;obtain⟨h',E,h2⟩:=iR e;cases h2;rw[lV (S:=S) (f:=Builtin.clear_) A (fun _ _=>rfl),arr1 B,show Array.map a.eval #[x]=#[a.eval x] by simp]
    have Y:tys[0]?=some t:=by rw[<-gG,J]; rfl
    exact(ald Y I E (by rw[hd]; rfl) (Ő H x)).step
   ·rename_i x t rest B J
    split at e<;>try (cases e; done)
    rename_i el K C;cases e;have G:=Ő H x;rw[C] at G;have G:a.eval x=.slice none 0 0:=G;rw[lV (S:=S) (f:=Builtin.cap_) A (fun _ _=>rfl),arr1 B]
    have Y:tys[0]?=some t:=by rw[<-gG,J]; rfl
    exact(jA.still (v:=.int .i64 0) (u:=.int .i64 0) I (by simp[Builtin.cap_,Y,G,run_underlying K,goInt]) rfl).step
   ·rename_i x xs B;rw[jd] at e;obtain⟨R,E,h2⟩:=iR e;cases h2;rw[lV (S:=S) (f:=Builtin.min_) A (fun _ _=>rfl)];obtain⟨u,L,V⟩:=Ns (P:=P) (f:=Builtin.min2) (gt:=false) (fun k p q=>akl k p q) (xs.map (ev S.t)) (xs.map a.eval) _ v (a.eval x) E (Ő H x) (Ē.of_map fun y _=>Ő H y);refine(jA.still I ?_ V).step;simp only[Builtin.min_,gi,B,eX];exact L
   ·rename_i x xs B;rw[jd] at e;obtain⟨R,E,h2⟩:=iR e;cases h2;rw[lV (S:=S) (f:=Builtin.max_) A (fun _ _=>rfl)];obtain⟨u,L,V⟩:=Ns (P:=P) (f:=Builtin.max2) (gt:=true) (fun k p q=>akm k p q) (xs.map (ev S.t)) (xs.map a.eval) _ v (a.eval x) E (Ő H x) (Ē.of_map fun y _=>Ő H y);refine(jA.still I ?_ V).step;simp only[Builtin.max_,gi,B,eX];exact L
   ·cases e
 |_=>rw[A] at e; cases e
end
end Go.Am
end

noncomputable section
namespace Go.Am
variable [Ghost]
def ű (nid:Nat) (h h':CK Blk):Prop:=∀j,j≠nid->lkB h j=.dead->lkB h' j=.dead
def ű.refl (nid:Nat) (h:CK Blk):ű nid h h:=fun _ _ hd=>hd
def ű.upd {nid id:Nat} {h:CK Blk} (B:Blk) (b:id=nid\/lkB h id≠.dead):ű nid h (č h id B):=fun j c hd=>by
 rw[Ø]
 ·exact hd
 ·rintro rfl;rcases b with rfl|b
  ·exact c rfl
  ·exact b hd
def ű.trans {nid:Nat} {h h' b:CK Blk} (d:ű nid h h') (h2:ű nid h' b):ű nid h b:=fun j c hd=>h2 j c (d j c hd)
def ű.frz {nid:Nat} {h:CK Blk} (v:AV):ű nid h (frz h v):=fun _ _ hd=>adr hd
def ű.frzA {nid:Nat} {h:CK Blk} (ps:CK (Nat×AV)):ű nid h (frzA h ps):=fun _ _ hd=>PH ps hd
def El {h:CK Blk} {id:Nat} {B:Blk} (b:lkB h id=B) (c:B≠.dead):lkB h id≠.dead:=by rw[b]; exact c
def ane {v:AV} {id:Nat} {h:CK Blk} {k u:Ty} {es:CK (Val k×Val u)} (b:lkB h id=.map k u es):lkB (frz h v) id=.map k u es:=by
 unfold frz; split
 ·exact V5 _ b
 ·exact adu b
def Su {P:Program} {h h':CK Blk} {t:TypeId} {a v:AV} {nid:Nat} (b:yn P h t a v some=some h'):ű nid h h':=by
 unfold yn at b
 (repeat' split at b)<;>first
  |(cases b; done)
  |(cases b; exact ű.upd _ (.inr (El ‹lkB h _=.cells _› (by simp))))
  |(cases b; exact(ű.frz _).trans (ű.upd _ (.inr (El ‹lkB (frz h _) _=.row _ _ _ _› (by simp)))))
def ag0 {P:Program} {S d:St} {o:Op} {nid:Nat} {eat:Bool} {v:AV} (e:opR P S nid eat o=some (v,d)):ű nid S.h d.h:=by
 unfold opR opK at e;dsimp only at e
 (repeat' split at e)<;>first
  |(cases e; done)
  |(cases e; exact ű.refl _ _)
  |(cases e; exact ű.upd _ (.inl rfl))
  |(cases e; exact(ű.frzA _).trans (ű.upd _ (.inl rfl)))
  |(rw[we] at e; obtain⟨c,b,h2⟩:=iR e; cases h2; exact ű.refl _ _)
  |(rw[Ca] at e; obtain⟨c,b,h2⟩:=iR e; cases h2; exact ű.refl _ _)
  |(rw[Fh] at e; obtain⟨c,b,h2⟩:=iR e; cases h2; exact ű.refl _ _)
  |(rw[qD] at e; obtain⟨c,b,h2⟩:=iR e; cases h2; exact ű.refl _ _)
  |(rw[qK] at e; obtain⟨c,b,h2⟩:=iR e; cases h2; exact ű.refl _ _)
  |(rw[nR] at e; obtain⟨c,b,h2⟩:=iR e; cases h2; exact ű.refl _ _)
  |(rw[Bv] at e; obtain⟨c,b,h2⟩:=iR e; cases h2; exact ű.refl _ _)
  |(rw[jd] at e; obtain⟨c,b,h2⟩:=iR e; cases h2; exact ű.refl _ _)
  |(rw[qB] at e; obtain⟨h',b,h2⟩:=iR e; cases h2; exact Su b)
  | (rw [qB] at e; obtain ⟨h', b, h2⟩ := iR e; cases h2
     exact(ű.upd _ (.inr (El ‹lkB S.h _=.row _ _ _ _› (by simp)))).trans (Su b))
  | (rw [Bh] at e; obtain ⟨⟨c, h'⟩, b, h2⟩ := iR e; cases h2
     unfold sL at b
     (repeat' split at b)<;>first
      |(cases b; done)
      |(cases b; exact ű.refl _ _)
      |(cases b; exact ű.upd _ (.inr (El ‹lkB S.h _=.row _ _ _ _› (by simp)))))
  | (rw [yl] at e; obtain ⟨⟨c, h'⟩, b, h2⟩ := iR e; cases h2
     unfold A9 at b
     (repeat' split at b)<;>first
      |(cases b; done)
      |(cases b; exact ű.upd _ (.inl rfl))
      |(cases b; exact ű.upd _ (.inr (El ‹lkB S.h _=.row _ _ _ _› (by simp)))))
  | (rw [Be] at e; obtain ⟨⟨c, h'⟩, b, h2⟩ := iR e; cases h2
     unfold Ka at b
     (repeat' split at b)<;>first
      |(cases b; done)
      |(cases b; exact ű.upd _ (.inl rfl)))
  | (rw [B4] at e; obtain ⟨h', b, h2⟩ := iR e; cases h2
     unfold KO at b
     (repeat' split at b)<;>first
      |(cases b; done)
      |(cases b; exact ű.refl _ _)
      |(cases b; exact ű.upd _ (.inr (El ‹lkB S.h _=.row _ _ _ _› (by simp)))))
  | (rw [jp] at e; obtain ⟨q, b, h2⟩ := iR e
     (repeat' split at h2)<;>first
      |(cases h2; done)
      |(cases h2; exact ű.refl _ _))
  | (rw [oi] at e; obtain ⟨h', b, h2⟩ := iR e; cases h2
     unfold mc at b
     (repeat' split at b)<;>first
      |(cases b; done)
      |(cases b; exact(ű.frz _).trans (ű.upd _ (.inr (El (ane ‹lkB S.h _=.map _ _ _›) (by simp))))))
end Go.Am
end

noncomputable section
namespace Go.Am
variable [Ghost]
section
variable {ρ:Type} {ν ν':Nat->Value} {h h':CK Blk} {w w':World} {P:Program}
def Ev.same (d:∀id,lkB h' id=lkB h id) (c:w'.heap=w.heap) (j:w'.os=w.os) (h2:w'.tape=w.tape) (i:w'.output=w.output) (m:Nat):Ev m ν h w ν h' w' :=
 ⟨j,h2,i,by rw[c]; exact cX _,fun b _ hb=>⟨by rw[c],fun⟨id,f,e⟩=>hb ⟨id,by rwa [d] at f,e⟩⟩,fun id _=>by rw[d]; exact Blk.next_refl _ _ _⟩
def HR.same (H:HR ν h w) (c:∀id,lkB h' id=lkB h id) (d:w'.heap=w.heap) (l:w'.os=w.os) (h2:w'.tape=w.tape) (k:w'.output=w.output):HR ν h' w':=by
 refine⟨fun id=>?_,fun i j b e f=>H.inj i j b (by rwa [c] at e) (by rwa [c] at f),fun b hb=>by rw[d]; exact H.ghlt b hb,fun id b e=>H.ghne id b (by rwa [c] at e)⟩;rw[c];exact BR.ev (Ev.same c d l h2 k _) (fun b o hb _=>by rw[d]; exact hb) rfl (fun b _ _ _=>by rw[d]) (H.blk id)
def Sim.same {S:St} {a:Act} (H:Sim ν S a w) (d:∀id,lkB h' id=lkB S.h id) (c:w'.heap=w.heap) (f:w'.os=w.os) (h2:w'.tape=w.tape) (e:w'.output=w.output):Sim ν {t:=S.t,h:=h'} a w' :=
 ⟨H.defers.keep (by rw[c]; exact cX _) (fun b o hb _=>by rw[c]; exact hb),H.len,fun i=>(H.tmps i).ev (Ev.same d c f h2 e _),H.heap.same d c f h2 e⟩
def Zr:∀(h:CK Blk) (d:Nat),h.length<=d->lkB h d=.dead
 |[],_,_=>rfl
 |x::xs,0,h=>by simp at h
 |x::xs,d+1,h=>by simpa[lkB] using Zr xs d (by simpa using h)
def VM:∀(h:CK Blk) (n id:Nat),lkB (h++List.replicate n .dead) id=lkB h id
 |[],0,_=>rfl
 |[],n+1,0=>rfl
 |[],n+1,id+1=>by simpa[gq,lkB] using VM [] n id
 |x::xs,n,0=>rfl
 |x::xs,n,id+1=>by simpa[lkB] using VM xs n id
abbrev fen:Fence:={Fence.wide with round:=Ghost.Q}
def aea (P:Program) (L:Nat) (call:CK Nat->Bool->Nat->CK AV->CK Blk->(AV->CK Blk->BY ρ)->BY ρ):Prop :=
 ∀path d g b h (K:AV->CK Blk->BY ρ) r,path.length=L->call path d g b h K=some r->∀ν w vals,HR ν h w->Ghost.B<=w.heap.size->Ē (VR ν h w) b vals ->
  (∃fn c,P.funcs[g]?=some fn/\fn.body=some c) /\
  CallsIn Fence.wide 0 P g vals.toArray w fun e w'=>∃ν' h' v u,e=.returned u/\VR ν' h' w' v u/\HR ν' h' w'/\Ev h.length ν h w ν' h' w'/\h.length<=h'.length/\(∀j,j<h.length->lkB h j=.dead->lkB h' j=.dead)/\K v h'=some r
def J9 (P:Program) (clone:Nat->Bool):Prop :=
 ∀g,clone g=true->∀fz S nid x v b,AX P g fz S nid x (fun v S=>some (v,S))=some (v,b)->∀ν w u,HR ν S.h w->VR ν S.h w x u->nid<S.h.length->lkB S.h nid=.dead ->
  (∃fn c,P.funcs[g]?=some fn/\fn.body=some c) /\
  CallsIn Fence.wide 0 P g #[u] w fun e w'=>∃ν' u',e=.returned u'/\VR ν' b.h w' v u'/\HR ν' b.h w'/\Ev S.h.length ν S.h w ν' b.h w'/\S.h.length<=b.h.length/\ű nid S.h b.h/\b.t=S.t
def J0 (P:Program) (g:Nat) (fz:Bool) (S:St) (nid:Nat) (x:AV) (K:AV->St->BY ρ):AX P g fz S nid x K=(AX P g fz S nid x fun v S=>some (v,S)).bind fun r=>K r.1 r.2:=by
 unfold AX; (repeat' split)<;>rfl
def Aft (m:Nat) (ν:Nat->Value) (h:CK Blk) (w:World) (K:St->BY ρ) (r:ρ) (c:Act) (w':World):Prop :=
 ∃ν' b,Sim ν' b c w'/\Ev m ν h w ν' b.h w'/\h.length<=b.h.length/\K b=some r
def Aft.trans {m f:Nat} {K:St->BY ρ} {r:ρ} {i:Act} {ν b:Nat->Value} {h c:CK Blk} {w d w':World} (e:Ev m ν h w b c d) (k:h.length<=c.length) (j:m<=f) (ha:Aft f b c d K r i w'):Aft m ν h w K r i w':=by
 obtain⟨ν',q,p,h2,o,l⟩:=ha;exact⟨ν',q,p,e.trans h2 j,dr k o,l⟩
def op_nid {S:St} {o:Op} {nid nid':Nat} {eat:Bool} {clone:Nat->Bool} (d:Ĕ clone o=false):opR P S nid eat o=opR P S nid' eat o:=by
 cases o<;>try first|rfl|(cases d; done)
 rename_i c;obtain⟨f,e,tys⟩:=c
 cases f<;>try rfl
 rename_i b
 cases b<;>first|(cases d; done)|rfl|(unfold opR opK; dsimp only; (repeat' split)<;>first|rfl|simp_all)
def YldP (P:Program) (y:YFun):Prop:=∃f:y.ty=Ghost.T,∀(O X:Nat->Prop) (c:CK (Val Ghost.T)) (v:Val Ghost.T) (u:Value) (W:World),Ghost.J O X c W->(∀b,O b->X b)->(∀b,X b->b<W.heap.size)->(c++[v] <+: AZ (F:=fun t=>CK (Val t)) f y.all)->CR W X Ghost.T v [u]->Ghost.B<=W.heap.size ->
 YieldAt Fence.wide 0 P Ghost.L #[u] W fun e d=>e=.returned (.bool true)/\d.os=W.os/\d.tape=W.tape/\d.output=W.output/\W.heap.size<=d.heap.size /\
  ∃us,(∀b,b<W.heap.size->¬O b->d.heap[b]?=W.heap[b]?/\¬Ś (.agg us) b)/\(∀b,Ś (.agg us) b->∃o,d.heap[b]?=some o/\S7 o=true)/\Ghost.J (Ś (.agg us)) (fun b=>(X b/\¬O b)\/Ś (.agg us) b) (c++[v]) d
def lF (E:Env ρ):Prop:=∀y,E.yld=some y->YldP E.P y
def i6 {E:Env ρ} (h:E.yld=none):lF E:=fun y e=>by rw[h] at e; cases e
def amv {α:Type} {all l:CK α} {k:BY ρ} {r:ρ} (h:yg all l k=some r):l <+: all/\k=some r:=by
 unfold yg at h
 split at h
 ·exact⟨‹_›,h⟩
 ·cases h
def aed {t:Ty} (b:t.isAgg=false) {a:AV} {v:Val t} (e:Û t [a]=some v):a.isAgg=false/\a.isTup=false:=by
 cases t<;>first|(cases b; done)|(cases a<;>first|exact⟨rfl,rfl⟩|cases e)
def aau (h:CK Blk) {a:AV} (e:(Ă h a).isAgg=false/\(Ă h a).isTup=false):a.isAgg=false/\a.isTup=false:=by
 cases a<;>first|exact⟨rfl,rfl⟩|exact e
def afY {E:Env ρ} (hy:lF E) {x:AV} {u:Value} {K:AV->CK Blk->BY ρ} {r:ρ} (H:HR ν h w) (hv:VR ν h w x u) (hB:Ghost.B<=w.heap.size) (e:yldK E h x K=some r) :
 YieldAt Fence.wide 0 E.P Ghost.L #[u] w fun e w'=>e=.returned (.bool true)/\∃ν' h',HR ν' h' w'/\Ev h.length ν h w ν' h' w'/\h'.length=h.length/\(∀j,lkB h j=.dead->lkB h' j=.dead)/\K (.bool true) h'=some r:=by
 unfold yldK at e
 split at e<;>try (cases e; done)
 rename_i y hE
 split at e<;>try (cases e; done)
 rename_i W
 split at e<;>try (cases e; done)
 rename_i N
 split at e<;>try (cases e; done)
 rename_i v l
 split at e<;>try (cases e; done)
 rename_i t xs f
 split at e<;>try (cases e; done)
 rename_i he hq;clear hq;obtain⟨ty,all⟩:=y;obtain⟨hT,hY⟩:=hy _ hE;have S:t=ty:=he;subst S;have Y:t=Ghost.T:=hT;subst Y;obtain⟨p,hk⟩:=amv e;obtain⟨I,G⟩:=aau h (aed W l);have J:=hv.one I G;obtain⟨Z,k,_⟩:=PJ H x;have U:CR w (Av ν (sk h x)) Ghost.T v [u]:=Ġ l ⟨PI H J N,trivial⟩;have hb:=k.blk 0;rw[f] at hb;obtain⟨us0,h1,h2,h3,h4⟩:=hb;obtain⟨fn,tmps,assign,C,m,hR⟩:=hY _ _ xs v u w h4 (fun b hb=>.inl ⟨0,by rw[f]; rfl,hb⟩) (fun b hb=>k.ltA hb) p U hB;refine⟨fn,tmps,assign,C,m,hR.mono fun e' w' hw=>?_⟩;obtain⟨rfl,o1,o2,o3,o4,us,o5,o6,o7⟩:=hw;refine⟨rfl,?_⟩
 have c:(lkB (sk h x) 0).live=true:=by rw[f]; rfl
 have z:0<(sk h x).length:=kY f (by simp);have d:∀b,b<w.heap.size->((lkB (sk h x) 0).live=true->¬Ś (ν 0) b)->w'.heap[b]?=w.heap[b]?:=fun b hb s=>(o5 b hb (s c)).1
 have hV:(Blk.acc Ghost.T (xs++[v])).live=true->∀b,Ś (.agg us) b->((lkB (sk h x) 0).live=true/\Ś (ν 0) b)\/w.heap.size<=b:=fun _ b hb=>by
  rcases dk b w.heap.size with O|R
  ·by_cases ho:Ś (ν 0) b
   ·exact .inl ⟨c,ho⟩
   ·exact absurd hb (o5 b O ho).2
  ·exact .inr R
 have A:=Ev.upd k (B:=.acc Ghost.T (xs++[v])) (V:=.agg us) z o1 o2 o3 o4 d hV (by rw[f]; exact⟨_,rfl⟩)
 have H2:HR (Č ν 0 (.agg us)) (č (sk h x) 0 (.acc Ghost.T (xs++[v]))) w':=by
  refine HR.upd k z A d hV ⟨us,Þ _ _ _,?_,rfl,?_⟩
  ·rw[Þ]; exact o6
  ·rw[Þ];refine Ghost.st _ _ _ _ _ _ o7 ⟨rfl,rfl,rfl,cX _,fun b _ s=>?_,fun b o hb _ _=>hb,fun b o hb _ _=>hb⟩;rintro(⟨i,hi,hb⟩|hg)
   ·by_cases h0:i=0
    ·subst h0; rw[Þ] at hb; exact s (.inr hb)
    ·rw[Ø _ h0] at hi;rw[ł _ _ h0] at hb;exact s (.inl ⟨.inl ⟨i,hi,hb⟩,fun q=>h0 (k.inj i 0 b hi c hb q)⟩)
   ·exact s (.inl ⟨.inr hg,fun q=>k.ghne 0 b c q hg⟩)
 refine⟨_,_,H2,Z.trans A (by rw[nX]; exact cX _),by rw[ä,nX],fun j hj=>?_,hk⟩;have hd:lkB (sk h x) j=.dead:=PK hj;rw[Ø _ (fun q=>by rw[q,f] at hd; cases hd)];exact hd
def aaA {E : Env ρ} {call : CK Nat -> Bool -> Nat -> CK AV -> CK Blk -> (AV -> CK Blk -> BY ρ) -> BY ρ} {L : Nat} (J : aea E.P L call) (hP : ∀ (f : Nat) (fn : Func), E.P.funcs[f]? = some fn -> (fn.name == "runtime.NumGoroutine") = false)
 (B:J9 E.P E.clone) (R:lF E)
 {fid:Nat} {path:CK Nat} {y:Bool} {S:St} {a:Act} {nid:Nat} {o:Oper} {K:AV->St->BY ρ} {r:ρ} (hp:path.length=L) (H:Sim ν S a w) (hn:Ĕ E.clone o.op=true->nid<S.h.length/\lkB S.h nid=.dead)
 (e:iE E call fid path y S nid o K=some r) {next:Act->World->Prop} {Q:Exit->Act->World->Prop}
 (hk:∀(ν':Nat->Value) (w':World) (u:Value) (v:AV) (i:St),VR ν' i.h w' v u->HR ν' i.h w'->Ev S.h.length ν S.h w ν' i.h w'->S.h.length<=i.h.length->(∀j,j<S.h.length->j≠nid\/Ĕ E.clone o.op=false->lkB S.h j=.dead->lkB i.h j=.dead)->i.t=S.t->K v i=some r->next (a.put o.dst u) w') :
 o.wpIn fen 0 E.P a w next Q:=by
 refine⟨fun _ _=>trivial,?_⟩
 have hnd:∀c,o.op≠.defer c:=by
  intro c O;unfold iE at e
  split at e<;>try (cases e; done)
  split at e
  ·rename_i d;rw[O] at d; cases d
  ·rw[O] at e;cases e
 rw[Oper.semAt_eq _ _ _ hnd]
 have plain:∀v i,opR E.P S nid (Sb E y fid o) o.op=some (v,i)->K v i=some r->o.uponIn fen 0 E.P a next Q ((execOp a.eval o).run E.P w):=by
  intro v i z h2;obtain⟨ν',w',u,N,h4,h5,h6,h7,h8⟩:=akt (clone:=E.clone) H hn z
  have:=hk ν' w' u v i h4 h5 h6 (gY h7.symm) (fun j _ C hd=>by
   rcases C with C|hal
   ·exact ag0 z j C hd
   ·rw[op_nid (nid':=j+1) hal] at z
    exact ag0 z j (by omega) hd) h8 h2
  rcases N with N|⟨N,rfl⟩
  ·rw[N]; exact this
  ·rw[N]; exact this
 unfold iE at e
 split at e<;>try (cases e; done)
 split at e
 ·rename_i f p tys d
  split at e<;>try (cases e; done)
  rotate_left
  ·rename_i m
   split at e<;>try (cases e; done)
   rename_i x b
   have G:a.eval f=.func (.yield Ghost.L) #[] #[]:=by
    have:=Ő H f;rw[m] at this;exact this
   obtain⟨fn,tmps,assign,body,V,hR⟩:=afY R H.heap (Ő H x) H.defers.bnd e
   have T:(execOp a.eval o).run E.P w=.ok (.round Ghost.L fn tmps assign body) w:=by
    rw[<-V];unfold execOp;rw[d,arr1 b];simp[resolve,G,Deferred.ofValue,invoke,Sem.run_bind,Result.andThen_ok,callFunc,run_program]
   rw[T,Oper.uponIn_round];refine⟨fun m=>(by cases m),RoundIn.mono (show RoundIn fen 0 E.P _ _ _ _ _ _ _ from hR) fun e' w' U=>?_⟩;obtain⟨rfl,ν',h',g1,g2,g3,g4,g5⟩:=U;exact hk ν' w' (.bool true) (.bool true) {t:=S.t,h:=h'} rfl g1 g2 (gY g3.symm) (fun j _ _ hd=>g4 j hd) rfl g5
  rename_i g first Z m;have Y:=Ő H f;rw[m] at Y;obtain⟨fs,cs,G,A,I⟩:=Y
  split at e
  ·rename_i k
   split at e<;>try (cases e; done)
   rename_i x b;rw[J0] at e;obtain⟨⟨v,i⟩,z,h2⟩:=iR e;simp only[cY] at k;obtain⟨k,W⟩:=k
   have hfg:f=.func g:=by
    cases f<;>try (cases W; done)
    simp only[ev] at m
    injection m with q1
    injection q1 with q1
    rw[q1]
   subst hfg;obtain⟨hn1,hn2⟩:=hn (by rw[d]; exact k);obtain⟨⟨fn,c,s,l⟩,O⟩:=B g k _ S nid _ v i z ν w _ H.heap (Ő H x) hn1 hn2
   have T:(execOp a.eval o).run E.P w=.ok (.enter g #[a.eval x]) w:=by
    unfold execOp;rw[d,arr1 b];simp only[resolve,Act.eval,Deferred.ofValue,pure_bind,invoke,callFunc,Sem.run_bind,run_program,Result.andThen_ok,s,hP g fn s,l];simp only[Bool.false_eq_true,if_false,Option.isNone_some];show Result.ok (Next.enter g _) w=_;congr 2;apply Array.ext'
    cases x<;>simp[Act.eval]
   rw[T,Oper.uponIn_enter];refine⟨fun m=>(by cases m),O.mono fun e' w' U=>?_⟩;obtain⟨ν',u',rfl,g1,g2,g3,g4,g6,g5⟩:=U;exact hk ν' w' u' v i g1 g2 g3 g4 (fun j _ C hd=>g6 j (C.resolve_right (by rw[d]; exact fun m=>by rw[show Ĕ E.clone (.call ⟨.value (.func g),p,tys⟩)=E.clone g from rfl,k] at m; cases m)) hd) g5 h2
  ·rename_i k
   have b:Ē (VR ν S.h w) (first++(p.toList.map (ev S.t)++Z)) (fs.toList++(p.toList.map a.eval++cs.toList)) :=
    (A.mono fun _ _ q=>q.up.up).append ((Ē.of_map fun x _=>Ő H x).append (I.mono fun _ _ q=>q.up.up))
   obtain⟨⟨fn,c,s,l⟩,O⟩:=J path y g _ _ _ r hp e ν w _ H.heap H.defers.bnd b
   have T:(execOp a.eval o).run E.P w=.ok (.enter g (fs.toList++(p.toList.map a.eval++cs.toList)).toArray) w:=by
    unfold execOp;rw[d];simp only[resolve,G,Deferred.ofValue,pure_bind,invoke,callFunc,Sem.run_bind,run_program,Result.andThen_ok,s,hP g fn s,l];simp only[Bool.false_eq_true,if_false,Option.isNone_some];show Result.ok (Next.enter g _) w=_;congr 2;apply Array.ext';simp
   rw[T,Oper.uponIn_enter];refine⟨fun m=>(by cases m),O.mono fun e' w' U=>?_⟩;obtain⟨ν',h',v,u,rfl,z,h2,N,h4,h6,h5⟩:=U;exact hk ν' w' u v {t:=S.t,h:=h'} z h2 N h4 (fun j C _ hd=>h6 j C hd) rfl h5
 ·rename_i op hne;rw[U3] at e;obtain⟨⟨v,i⟩,z,h2⟩:=iR e;exact plain v i z h2
def Fu:∀(t:CK AV) (d:Nat),upd t d (lk t d)=t
 |[],_=>rfl
 |_::_,0=>rfl
 |x::t,d+1=>by simp[upd,lk,Fu t d]
def alP (n nid:Nat) (h:CK Blk):Prop:=∀j,nid<=j->j<nid+n->j<h.length/\lkB h j=.dead
def oC {clone:Nat->Bool} {o:Oper} {os:CK Oper}:jc clone (o::os)=bif Ĕ clone o.op then jc clone os+1 else jc clone os:=rfl
def T5 {all:CK Oper} {o:Oper} {j:Nat} {b:Bool}:∀{l:CK Oper},uu all l=true->o∈l->o.guard=some (j,b)->∃p d,all[j]?=some p/\p.dst=some d
 |[],_,c,_=>by cases c
 |x::l,f,c,i=>by
  simp only[uu,cY] at f;rcases dg.1 c with rfl|c
  ·have e:=f.1;rw[i] at e;simp only at e
   split at e
   ·rename_i p k;obtain⟨d,hd⟩:=gZ.1 e;exact⟨p,d,k,hd⟩
   ·cases e
  ·exact T5 f.2 c i
def aeb {c:Array Oper} {tmps:Array Value} {j d:Nat} {p:Oper} (i:c.toList[j]?=some p) (hd:p.dst=some d) :
 (∀b,tmps.getD d undef=.bool b->yielded c tmps j=some b)/\(tmps.getD d undef=undef->yielded c tmps j=none):=by
 have e:c[j]?=some p:=by simpa using i
 constructor
 ·intro b hb;unfold yielded;rw[e];simp only[Option.bind_some,hd]
  cases f:tmps[d]? with
  |none=>simp[eF,f,undef] at hb
  |some v=>simp[eF,f] at hb; subst hb; rfl
 ·intro hb;unfold yielded;rw[e];simp only[Option.bind_some,hd]
  cases f:tmps[d]? with
  |none=>rfl
  |some v=>simp[eF,f] at hb; subst hb; rfl
def qS (E:Env ρ) (call:CK Nat->Bool->Nat->CK AV->CK Blk->(AV->CK Blk->BY ρ)->BY ρ) (fid:Nat) (path:CK Nat) (c:Bool) (all:CK Oper) (i nid:Nat) (o:Oper) (S:St) (K:St->BY ρ):BY ρ :=
 match o.guard with
 |none=>iE E call fid (path++[i]) c S nid o fun v S=>K {t:=ā S.t o.dst v,h:=S.h}
 |some (j,want)=>match lk S.t (qn all j) with
  |.bool b=>match b==want with
   |true=>iE E call fid (path++[i]) c S nid o fun v S=>K {t:=ā S.t o.dst v,h:=S.h}
   |false=>K {t:=ā S.t o.dst .und,h:=S.h}
  |.und=>K {t:=ā S.t o.dst .und,h:=S.h}
  |_=>none
def agW {E:Env ρ} {call:CK Nat->Bool->Nat->CK AV->CK Blk->(AV->CK Blk->BY ρ)->BY ρ} {fid:Nat} {path:CK Nat} {c:Bool} {all:CK Oper} {o:Oper} {os:CK Oper} {i nid:Nat} {S:St} {K:St->BY ρ} :
 aez E call fid path c all (o::os) i nid S K=qS E call fid path c all i nid o S fun m=>aez E call fid path c all os (i+1) (bif Ĕ E.clone o.op then nid+1 else nid) m K:=by
 simp only[aez,qS]
 have f:∀d b,lk S.t d=.bool b->({t:=upd S.t d (.bool b),h:=S.h}:St)=S:=fun d b hb=>by rw[<-hb,Fu]
 have e:∀d b,lk S.t d=.bool b->upd S.t d (.bool b)=S.t:=fun d b hb=>by rw[<-hb,Fu]
 cases o.guard with
 |none=>rfl
 |some g =>
  obtain⟨j,k⟩:=g;simp only
  cases hb:lk S.t (qn all j)<;>try rfl
  rename_i b;have l:=f _ b hb;have h2:=e _ b hb
  cases b<;>cases k<;>simp only[l,h2]<;>rfl
def MN {E : Env ρ} {call : CK Nat -> Bool -> Nat -> CK AV -> CK Blk -> (AV -> CK Blk -> BY ρ) -> BY ρ} {L : Nat} (z : aea E.P L call) (Z : ∀ (f : Nat) (fn : Func), E.P.funcs[f]? = some fn -> (fn.name == "runtime.NumGoroutine") = false)
 (m:J9 E.P E.clone) (B:lF E) {fid:Nat} {path:CK Nat} {q:Bool} {c:Array Oper} (Y:uu c.toList c.toList=true)
 {S:St} {a:Act} {nid i:Nat} {o:Oper} {K:St->BY ρ} {r:ρ} (J:path.length+1=L) (U:c[i]?=some o) (H:Sim ν S a w) (W:Ĕ E.clone o.op=true->nid<S.h.length/\lkB S.h nid=.dead)
 (e:qS E call fid path q c.toList i nid o S K=some r) {next:Act->World->Prop} {Q:Exit->Act->World->Prop}
 (V:∀(ν':Nat->Value) (w':World) (u:Value) (v:AV) (s:St),VR ν' s.h w' v u->HR ν' s.h w'->Ev S.h.length ν S.h w ν' s.h w'->S.h.length<=s.h.length->(∀j,j<S.h.length->j≠nid\/Ĕ E.clone o.op=false->lkB S.h j=.dead->lkB s.h j=.dead)->s.t=S.t ->
  K {t:=ā s.t o.dst v,h:=s.h}=some r->next (a.put o.dst u) w') :
 wpOpIn fen 0 E.P c Q i next a w:=by
 have A:iE E call fid (path++[i]) q S nid o (fun v S=>K {t:=ā S.t o.dst v,h:=S.h})=some r ->
  o.wpIn fen 0 E.P a w next Q:=fun R=>aaA z Z m B (by simpa using J) H W R V
 -- it is left out
 have skip:K {t:=ā S.t o.dst .und,h:=S.h}=some r->next (a.put o.dst undef) w :=
  fun R=>V ν w undef .und S rfl H.heap (Ev.refl _ _ _ _) (cX _) (fun _ _ _ hd=>hd) rfl R
 have G:o∈c.toList:=by
  have:c.toList[i]?=some o:=by simpa using U
  exact de this
 unfold wpOpIn;rw[U];simp only[qS] at e
 split at e
 ·rename_i k
  have x:Region.wanted o (yielded c a.tmps)=true:=by simp[Region.wanted,k]
  simp only[x,if_true];exact A e
 ·rename_i j T k;obtain⟨p,d,J,hd⟩:=T5 Y G k;obtain⟨O,N⟩:=aeb (tmps:=a.tmps) J hd
  have y:qn c.toList j=d:=by simp[qn,J,hd]
  rw[y] at e;have I:=H.tmps d
  split at e
  ·rename_i b hb;rw[hb] at I;have C:=O b I
   split at e
   ·rename_i l
    have x:Region.wanted o (yielded c a.tmps)=true:=by
     simp only[beq_iff_eq] at l;simp[Region.wanted,k,C,l]
    simp only[x,if_true];exact A e
   ·rename_i l
    have x:Region.wanted o (yielded c a.tmps)=false:=by
     simp only[beq_eq_false_iff_ne] at l;simpa[Region.wanted,k,C] using l
    simp only[x,dq,if_false];exact⟨fun _ _=>trivial,skip e⟩
  ·rename_i hb;rw[hb] at I
   have x:Region.wanted o (yielded c a.tmps)=false:=by simp[Region.wanted,k,N I]
   simp only[x,dq,if_false];exact⟨fun _ _=>trivial,skip e⟩
  ·cases e
def agV {E : Env ρ} {call : CK Nat -> Bool -> Nat -> CK AV -> CK Blk -> (AV -> CK Blk -> BY ρ) -> BY ρ} {L : Nat} (p : aea E.P L call) (N : ∀ (f : Nat) (fn : Func), E.P.funcs[f]? = some fn -> (fn.name == "runtime.NumGoroutine") = false)
 (k:J9 E.P E.clone) (q:lF E) {fid:Nat} {path:CK Nat} {l:Bool} {c:Array Oper} (J:uu c.toList c.toList=true)
 {S:St} {a:Act} {nid i:Nat} {o:Oper} {os:CK Oper} {K:St->BY ρ} {r:ρ} (A:path.length+1=L) (B:c[i]?=some o) (H:Sim ν S a w) (y:alP (jc E.clone (o::os)) nid S.h)
 (e:aez E call fid path l c.toList (o::os) i nid S K=some r) {next:Act->World->Prop} {Q:Exit->Act->World->Prop}
 (G:∀(ν':Nat->Value) (w':World) (u:Value) (v:AV) (d:St),VR ν' d.h w' v u->HR ν' d.h w'->Ev S.h.length ν S.h w ν' d.h w'->S.h.length<=d.h.length->alP (jc E.clone os) (bif Ĕ E.clone o.op then nid+1 else nid) d.h->(∀j,j<S.h.length->j<nid->lkB S.h j=.dead->lkB d.h j=.dead)->d.t=S.t ->
  aez E call fid path l c.toList os (i+1) (bif Ĕ E.clone o.op then nid+1 else nid) {t:=ā d.t o.dst v,h:=d.h} K=some r->next (a.put o.dst u) w') :
 wpOpIn fen 0 E.P c Q i next a w:=by
 have x:Ĕ E.clone o.op=true->nid<S.h.length/\lkB S.h nid=.dead:=fun b=>y nid (cX _) (by rw[oC,b]; simp)
 have m:alP (jc E.clone os) (bif Ĕ E.clone o.op then nid+1 else nid) S.h:=fun j s h2=>by
  cases b:Ĕ E.clone o.op with
  |true=>rw[b] at s h2; exact y j (by simp at s; omega) (by rw[oC,b]; simp at h2 ⊢; omega)
  |false=>rw[b] at s h2; exact y j (by simpa using s) (by rw[oC,b]; simpa using h2)
 rw[agW] at e;refine MN p N k q J A B H x e fun ν' w' u v d g1 Z Y W z V U=>G ν' w' u v d g1 Z Y W (fun j h2 T=>?_) (fun j I C hd=>z j I (.inl (by omega)) hd) V U;obtain⟨R,O⟩:=m j h2 T;refine⟨by omega,z j R ?_ O⟩
 cases b:Ĕ E.clone o.op with
 |true=>left; rw[b] at h2; simp at h2; omega
 |false=>exact .inr rfl
end
end Go.Am
end

noncomputable section
namespace Go.Am
variable [Ghost]
section
variable {ρ:Type} {ν ν':Nat->Value} {h h':CK Blk} {w w':World} {P:Program}
def Dd (m:Nat) (h h':CK Blk):Prop:=∀j,j<m->lkB h j=.dead->lkB h' j=.dead
def Dd.refl (m:Nat) (h:CK Blk):Dd m h h:=fun _ _ hd=>hd
def Dd.trans {m c:Nat} {h h' b:CK Blk} (f:Dd m h h') (h2:Dd c h' b) (e:m<=c):Dd m h b:=fun j d hd=>h2 j (dw d e) (f j d hd)
def abV (m:Nat) (ν:Nat->Value) (h:CK Blk) (w:World) (K:Exit->St->BY ρ) (r:ρ) (e:Exit) (c:Act) (w':World):Prop :=
 ∃ν' b,Sim ν' b c w'/\Ev m ν h w ν' b.h w'/\m<=b.h.length/\Dd m h b.h/\K e b=some r
def abV.trans {m i:Nat} {K:Exit->St->BY ρ} {r:ρ} {e:Exit} {j:Act} {b:Nat->Value} {c:CK Blk} {d:World} (ev:Ev m ν h w b c d) (hd:Dd m h c) (f:m<=i) (ha:abV i b c d K r e j w'):abV m ν h w K r e j w':=by
 obtain⟨ν',q,p,h2,o,l,k⟩:=ha;exact⟨ν',q,p,ev.trans h2 f,dr f o,hd.trans l f,k⟩
def ajO (E:Env ρ) (call:CK Nat->Bool->Nat->CK AV->CK Blk->(AV->CK Blk->BY ρ)->BY ρ):Prop :=
 (∀path c g b h K,call path c g b h K=none) \/
 ((∀ f p, E.pure f = some p -> ∀ path c b h K, call path c f b h K = UJ (c && !E.fz f) p h b K) /\
  (∀f,E.pure f=none->E.sort f=true->∀path c b h K,call path c f b h K=match b with|[x]=>Uz h x K|_=>none) /\
  (∀f,E.pure f=none->E.sort f=false->E.compact f=true->∀path c b h K,call path c f b h K=match b with|[x]=>qv h x K|_=>none))
def NormOk (m:Nat) (N:St->BY St):Prop:=∀(S b:St) (ν:Nat->Value) (a:Act) (w:World),N S=some b->Sim ν S a w->m<=S.h.length->∃ν',Sim ν' b a w/\Ev m ν S.h w ν' b.h w/\m<=b.h.length/\Dd m S.h b.h
def aaf (E:Env ρ):Prop:=∀path fid rid m J,E.joins path fid rid m=some J->∃N,NormOk m N/\∀b rest,J b rest=b (fun S=>match N S with|some c=>rest c|none=>none)
def ŗ {E:Env ρ} (h:E.joins=fun _ _ _ _=>none):aaf E:=by
 intro path fid rid m J e;rw[h] at e;cases e
structure nt (E:Env ρ) (L:Nat) (call:CK Nat->Bool->Nat->CK AV->CK Blk->(AV->CK Blk->BY ρ)->BY ρ):Prop where
 pureEq:ajO E call
 call:aea E.P L call
 plain : ∀ (f : Nat) (fn : Func), E.P.funcs[f]? = some fn -> (fn.name == "runtime.NumGoroutine") = false
 clone:J9 E.P E.clone
 joins:aaf E
 yld:lF E
def X7 {E:Env ρ} {call:CK Nat->Bool->Nat->CK AV->CK Blk->(AV->CK Blk->BY ρ)->BY ρ} {L:Nat} (l:nt E L call) {fid:Nat} {path:CK Nat} {p:Bool} {b:Array Oper} (B:path.length+1=L) (G:uu b.toList b.toList=true)
 {K:St->BY ρ} {r:ρ} {Q:Exit->Act->World->Prop} {m:Nat}:∀(os:CK Oper) (i nid:Nat) (S:St) (a:Act) (ν:Nat->Value) (w:World),(∀k,os[k]?=b[i+k]?)->Sim ν S a w->alP (jc E.clone os) nid S.h->m<=nid->m<=S.h.length ->
  aez E call fid path p b.toList os i nid S K=some r ->
  (∀ν' c J w',Sim ν' c J w'->Ev m ν S.h w ν' c.h w'->m<=c.h.length->Dd m S.h c.h->K c=some r->Q .normal J w') ->
  wpOpsIn fen 0 E.P b Q (List.range' i os.length) a w
 |[],i,nid,S,a,ν,w,_,H,_,_,x,e,y=>y ν S a w H (Ev.refl _ _ _ _) x (Dd.refl _ _) e
 |o::os,i,nid,S,a,ν,w,C,H,N,O,x,e,y=>by
  rw[dh,List.range'_succ,wpOpsIn_cons]
  have s:b[i]?=some o:=by have:=C 0; simpa using this.symm
  refine agV l.call l.plain l.clone l.yld G B s H N e fun ν' w' u v c Y h2 I h4 W T V U=>?_;have f:=H.put I h2 o.dst Y
  refine X7 l B G os (i+1) _ {t:=ā c.t o.dst v,h:=c.h} _ ν' w' (fun k=>by have:=C (k+1); rw[show i+1+k=i+(k+1) by omega]; simpa using this) (by rw[V]; exact f) W (by cases Ĕ E.clone o.op<;>simp<;>omega) (by simp; omega) U
   fun d A z q g1 g2 g3 g4 Z=>y d A z q g1 ((I.mono x).trans g2 (cX _)) g3 (fun j R hd=>g4 j R (T j (by omega) (by omega) hd)) Z
def aaE {E:Env ρ} {call:CK Nat->Bool->Nat->CK AV->CK Blk->(AV->CK Blk->BY ρ)->BY ρ} {L:Nat} (p:nt E L call) {fid rid:Nat} {path:CK Nat} {c:Array Oper} {S:St} {a:Act} {K:Exit->St->BY ρ} {r:ρ} {m:Nat} (i:path.length+1=L)
 (e:MY E call fid path false c.toList S (K .normal)=some r) (H:Sim ν S a w) (l:m<=S.h.length):(Code.region rid c false).wpIn fen 0 E.P (abV m ν S.h w K r) a w:=by
 unfold MY at e
 split at e<;>try (cases e; done)
 rename_i f;simp only[Bool.false_and,Bool.false_or,fm] at f;apply wpIn_region;have b:=fun id=>VM S.h (jc E.clone c.toList) id;have A:Sim ν {t:=S.t,h:=S.h++List.replicate (jc E.clone c.toList) .dead} a w:=H.same b rfl rfl rfl rfl;have d:Ev m ν S.h w ν (S.h++List.replicate (jc E.clone c.toList) .dead) w:=Ev.same b rfl rfl rfl rfl m
 have:=X7 (m:=m) (Q:=abV m ν S.h w K r) p i f c.toList 0 S.h.length _ a ν w (fun k=>by simp) A (fun j q h2=>⟨by simp; omega,by simp only[b]; exact Zr _ _ q⟩) l (by simp; omega) e
  (fun ν' z B w' y x v u s=>⟨ν',z,y,d.trans x (cX _),v,fun j o hd=>u j o (by simp only[b]; exact hd),s⟩)
 rw[List.range_eq_range'];simpa using this
def wK (E:Env ρ) (L:Nat) (call:CK Nat->Bool->Nat->CK AV->CK Blk->(AV->CK Blk->BY ρ)->BY ρ):Prop :=
 ∀(fid rid:Nat) (path:CK Nat) (b:Array Oper) (S:St) (a:Act) (K:Exit->St->BY ρ) (r:ρ) (m:Nat) (ν:Nat->Value) (w:World),path.length+1=L ->
  MY E call fid path true b.toList S (K .normal)=some r->Sim ν S a w->m<=S.h.length->(Code.region rid b true).wpIn fen 0 E.P (abV m ν S.h w K r) a w
def drawn:Code->Bool
 |.region _ _ d=>d
 |.seq a b=>drawn a||drawn b
 |.cond _ a b=>drawn a||drawn b
 |.block _ b=>drawn b
 |.scope b=>drawn b
 |_=>false
def noGoto (Q:Exit->Act->World->Prop):Exit->Act->World->Prop
 |.goto _,_,_=>False
 |e,a,w=>Q e a w
section
variable {F:Fence} {n:Nat} {P:Program} {Q:Exit->Act->World->Prop} {a:Act} {w:World}
def nA {b:Frame} {k:CK Item} {cs:CK Frame} {c:Code}:step P (lone (b.atR a (.code (.scope c)::k)) cs w)=.next (lone (b.atR a (.code c::.inScope c::k)) cs w) :=
 step_lone_go (by simp[stepG,stepG.exec,Frame.atR])
def Uy {b:Frame} {k:CK Item} {cs:CK Frame} {c:Code}:step P (lone (b.atR a (.inScope c::k)) cs w)=.next (lone (b.atR a k) cs w) :=
 step_lone_go (by simp[stepG,stepG.exec,Frame.atR])
def aec {c:Code} (h:c.wpIn F n P (noGoto Q) a w):(Code.scope c).wpIn F n P Q a w:=by
 intro b k cs m hb p;have h0:(lone (b.atR a (.code (.scope c)::k)) cs w).fenced P F:=fenced_calm hb p rfl;obtain⟨e,i,f,j,d⟩:=h b (.inScope c::k) cs m hb p
 cases e with
 |normal=>exact⟨.normal,i,f,j,.head h0 nA (StepsIn.trans d (.one (fenced_calm hb p rfl) Uy))⟩
 |exit id =>
  have r:exitTo id (.inScope c::k)=exitTo id k:=by simp[exitTo]
  exact⟨.exit id,i,f,j,fun s q=>.head h0 nA (d.1 s (by rw[r]; exact q)),
   fun o q=>let ⟨k₁,u,h2⟩:=d.2 o (by rw[r]; exact q); ⟨k₁,u,.head h0 nA h2⟩⟩
 |goto l=>exact j.elim
 |ret=>exact⟨_,i,f,j,.of_steps (.one h0 nA) d⟩
 |panic ch=>exact⟨_,i,f,j,.of_steps (.one h0 nA) d⟩
 |outgrown=>exact⟨_,i,f,j,.of_steps (.one h0 nA) d⟩
end
def uD (E:Env ρ) (path:CK Nat) (fid bid:Nat):LI->Prop
 |.lp b=>∀(m:Nat) (S:St) (K:Exit->St->BY ρ) (r:ρ) (ν:Nat->Value) (a:Act) (w:World),E.loops path fid bid m S K=some r->Sim ν S a w->m<=S.h.length->(Code.loop b).wpIn fen 0 E.P (abV m ν S.h w K r) a w
 |.rf g ps x y=>∀(m:Nat) (S:St) (K:Exit->St->BY ρ) (r:ρ) (ν:Nat->Value) (a:Act) (w:World),E.ranges path fid bid m (ev S.t g) S K=some r->Sim ν S a w->m<=S.h.length->(Code.rangeFunc g ps x y).wpIn fen 0 E.P (abV m ν S.h w K r) a w
def JN {E:Env ρ} {call:CK Nat->Bool->Nat->CK AV->CK Blk->(AV->CK Blk->BY ρ)->BY ρ} {L:Nat} (V:nt E L call) {fid:Nat} {path:CK Nat} (U:path.length+2=L) {m:Nat} {r:ρ}:∀(c:Code) (bid:Nat) (S:St) (K:Exit->St->BY ρ) (ν:Nat->Value) (a:Act) (w:World),
 (drawn c=true->wK E L call)->(∀x∈â bid c,uD E path fid x.1 x.2)->goC E call fid path m bid c S K=some r->Sim ν S a w->m<=S.h.length->c.wpIn fen 0 E.P (abV m ν S.h w K r) a w:=by
 intro c
 induction c with
 |skip=>exact fun bid S K ν a w _ _ e H p=>wpIn_skip ⟨ν,S,H,Ev.refl _ _ _ _,p,Dd.refl _ _,e⟩
 |label l=>exact fun bid S K ν a w _ _ e H p=>wpIn_label ⟨ν,S,H,Ev.refl _ _ _ _,p,Dd.refl _ _,e⟩
 |exit id=>exact fun bid S K ν a w _ _ e H p=>wpIn_exit ⟨ν,S,H,Ev.refl _ _ _ _,p,Dd.refl _ _,e⟩
 |ret=>exact fun bid S K ν a w _ _ e H p=>wpIn_ret ⟨ν,S,H,Ev.refl _ _ _ _,p,Dd.refl _ _,e⟩
 |region rid ops draw =>
  intro bid S K ν a w s _ e H p;simp only[goC,aia] at e
  cases draw with
  |false=>exact aaE V (by simpa using U) e H p
  |true=>exact s rfl fid rid _ ops S a K r m ν w (by simpa using U) e H p
 |seq x y ihx ihy =>
  intro bid S K ν a w s q e H p;simp only[goC] at e
  cases v:E.joins path fid (PF y) m with
  |none =>
   rw[v] at e;simp only at e;refine wpIn_seq (wpIn_mono (ihx bid S _ ν a w (fun h=>s (by simp[drawn,h])) (fun z u=>q z (dU _ u)) e H p) fun A B w' ha=>?_);obtain⟨ν',o,k,h2,i,f,d⟩:=ha
   cases A with
   |normal =>
    exact wpIn_mono (ihy bid o K ν' B w' (fun h=>s (by simp[drawn,h])) (fun z u=>q z (dR _ u)) d k i) fun R T O ha=>ha.trans h2 f (cX _)
   |exit id=>exact⟨ν',o,k,h2,i,f,d⟩
   |goto l=>exact⟨ν',o,k,h2,i,f,d⟩
   |ret=>exact⟨ν',o,k,h2,i,f,d⟩
   |panic ch=>exact⟨ν',o,k,h2,i,f,d⟩
   |outgrown=>exact⟨ν',o,k,h2,i,f,d⟩
  |some J =>
   rw[v] at e;simp only at e;obtain⟨N,Y,Z⟩:=V.joins _ _ _ _ _ v;rw[Z] at e;refine wpIn_seq (wpIn_mono (ihx bid S _ ν a w (fun h=>s (by simp[drawn,h])) (fun z u=>q z (dU _ u)) e H p) fun A B w' ha=>?_);obtain⟨ν',o,k,h2,i,f,d⟩:=ha
   cases A with
   |normal =>
    simp only at d
    split at d<;>try (cases d; done)
    rename_i I W;obtain⟨C,g1,g2,g3,g4⟩:=Y o I ν' B w' W k i;exact wpIn_mono (ihy bid I K C B w' (fun h=>s (by simp[drawn,h])) (fun z u=>q z (dR _ u)) d g1 g3) fun R T O ha=>ha.trans (h2.trans g2 (cX _)) (f.trans g4 (cX _)) (cX _)
   |exit id=>exact⟨ν',o,k,h2,i,f,d⟩
   |goto l=>exact⟨ν',o,k,h2,i,f,d⟩
   |ret=>exact⟨ν',o,k,h2,i,f,d⟩
   |panic ch=>exact⟨ν',o,k,h2,i,f,d⟩
   |outgrown=>exact⟨ν',o,k,h2,i,f,d⟩
 |cond c x y ihx ihy =>
  intro bid S K ν a w s q e H p;simp only[goC] at e
  split at e<;>try (cases e; done)
  rename_i b hb;have G:=Ő H c;rw[hb] at G;have G:a.eval c=.bool b:=G
  split at e
  ·exact wpIn_cond_true G (ihx bid S K ν a w (fun h=>s (by simp[drawn,h])) (fun z u=>q z (dU _ u)) e H p)
  ·exact wpIn_cond_false G (ihy bid S K ν a w (fun h=>s (by simp[drawn,h])) (fun z u=>q z (dR _ u)) e H p)
 |block id b ih =>
  intro bid S K ν a w s q e H p;simp only[goC] at e;refine wpIn_block (wpIn_mono (ih id S _ ν a w (fun h=>s (by simpa[drawn] using h)) q e H p) fun A B w' ha=>?_);obtain⟨ν',o,k,h2,i,f,d⟩:=ha
  cases A with
  |exit j =>
   simp only[Exit.inBlock];simp only at d
   split at d
   ·rename_i v;rw[if_pos (eq_of_beq v)];exact⟨ν',o,k,h2,i,f,d⟩
   ·rename_i v
    have:¬j=id:=by simpa using v
    rw[if_neg this];exact⟨ν',o,k,h2,i,f,d⟩
  |normal=>exact⟨ν',o,k,h2,i,f,d⟩
  |goto l=>exact⟨ν',o,k,h2,i,f,d⟩
  |ret=>exact⟨ν',o,k,h2,i,f,d⟩
  |panic ch=>exact⟨ν',o,k,h2,i,f,d⟩
  |outgrown=>exact⟨ν',o,k,h2,i,f,d⟩
 |loop b ih =>
  intro bid S K ν a w s q e H p;simp only[goC] at e;exact q (bid,.lp b) (by simp[â]) m S K r ν a w e H p
 |rangeFunc g ps x y ihx ihy =>
  intro bid S K ν a w s q e H p;simp only[goC] at e;exact q (bid,.rf g ps x y) (by simp[â]) m S K r ν a w e H p
 |scope b ih =>
  intro bid S K ν a w s q e H p;simp only[goC] at e;refine aec (wpIn_mono (ih bid S _ ν a w (fun h=>s (by simpa[drawn] using h)) q e H p) fun A B w' ha=>?_);obtain⟨ν',o,k,h2,i,f,d⟩:=ha
  cases A with
  |goto l=>cases d
  |normal=>exact⟨ν',o,k,h2,i,f,d⟩
  |exit id=>exact⟨ν',o,k,h2,i,f,d⟩
  |ret=>exact⟨ν',o,k,h2,i,f,d⟩
  |panic ch=>exact⟨ν',o,k,h2,i,f,d⟩
  |outgrown=>exact⟨ν',o,k,h2,i,f,d⟩
 |_=>intro bid S K ν a w s q e H p; cases e
def wn {E:Env ρ} {call:CK Nat->Bool->Nat->CK AV->CK Blk->(AV->CK Blk->BY ρ)->BY ρ} {L:Nat} (i:nt E L call) (j:wK E L call) {fid:Nat} {path:CK Nat} (b:path.length+2=L) {m:Nat} {r:ρ} (c:Code) (bid:Nat) (S:St) (K:Exit->St->BY ρ) (ν:Nat->Value) (a:Act) (w:World)
 (f:∀x∈â bid c,uD E path fid x.1 x.2) (e:goC E call fid path m bid c S K=some r) (H:Sim ν S a w) (d:m<=S.h.length):c.wpIn fen 0 E.P (abV m ν S.h w K r) a w :=
 JN i b c bid S K ν a w (fun _=>j) f e H d
end
end Go.Am
end

noncomputable section
namespace Go.Am
variable [Ghost]
section
variable {ρ:Type} {ν ν':Nat->Value} {h h':CK Blk} {w w':World} {P:Program}
def ajN:Prop:=∀(T:Tpl) (pin:Nat) (cs vs:CK Ty) (S:St) (p:Val (tyL cs)) (v:Val (tyL vs)) (ν:Nat->Value) (a:Act) (w:World),yq T pin cs vs S=some (p,v)->Sim ν S a w ->
 ∃ν',Sim ν' (ù T cs vs p v) a w/\Ev pin ν S.h w ν' (ù T cs vs p v).h w/\pin<=(ù T cs vs p v).h.length/\Dd pin S.h (ù T cs vs p v).h
def Ua:∀(l:CK (Exit×Tpl×CK Ty)) (e:Exit) (i j:Nat),akW l e i=some j->∃x,i<=j/\l[j-i]?=some x/\L3 x.1 e=true
 |[],_,_,_,h=>by cases h
 |x::l,e,i,j,h=>by
  unfold akW at h
  split at h
  ·rename_i b;cases h;exact⟨x,cX _,by simp,b⟩
  ·obtain⟨y,d,h2,c⟩:=Ua l e (i+1) j h;refine⟨y,by omega,?_,c⟩;rw[show j-i=(j-(i+1))+1 by omega];simpa using h2
def aaz {a b:Exit} (h:L3 a b=true):a=b:=by
 unfold L3 at h
 split at h
 ·rw[eq_of_beq h]
 ·rfl
 ·cases h
def akC (hM:ajN) {E:Env ρ} {call:CK Nat->Bool->Nat->CK AV->CK Blk->(AV->CK Blk->BY ρ)->BY ρ} {N:Nat} (hE:nt E N call) (hD:wK E N call) {fid bid:Nat} {path:CK Nat} (O:path.length+2=N) {b:Code}
 (hin:∀x∈â bid b,uD E path fid x.1 x.2) (L:Å)
 (bF:Val (tyL L.cs)->Val (tyL L.vs)->(Val (tyL L.vs)->BY ρ)->((i:Nat)->Val (tyL (L.zs i))->BY ρ)->BY ρ)
 (law:∀p v G kx,goC E call fid path L.pin bid b (ù L.head L.cs L.vs p v) (Eb L G kx)=bF p v (G p) (fun i=>kx i p)) {m:Nat} {S:St} {K:Exit->St->BY ρ} {r:ρ} {ν:Nat->Value} {a:Act} {w:World} (e:aaB L bF m S K=some r) (H:Sim ν S a w) (hm:m<=S.h.length):(Code.loop b).wpIn fen 0 E.P (abV m ν S.h w K r) a w:=by
 unfold aaB at e
 split at e<;>try (cases e; done)
 rename_i c;have c:m<=L.pin:=eZ c
 split at e<;>try (cases e; done)
 rename_i p v B;obtain⟨n,hn⟩:=aeW e;obtain⟨d,H1,V,T,Y⟩:=hM _ _ _ _ _ _ _ ν a w B H;apply wpIn_loop_rounds n
 have key:∀(n:Nat) (p:Val (tyL L.cs)) (v:Val (tyL L.vs)) (d:Nat->Value) (q:Act) (f:World),ajY (fun v G=>bF p v G fun i z=>K (L.xk i) (ù (L.tpl i) L.cs (L.zs i) p z)) n v=some r ->
  Sim d (ù L.head L.cs L.vs p v) q f->Ev m ν S.h w d (ù L.head L.cs L.vs p v).h f->L.pin<=(ù L.head L.cs L.vs p v).h.length->Dd m S.h (ù L.head L.cs L.vs p v).h ->
  Code.roundsIn fen 0 E.P b (abV m ν S.h w K r) n q f:=by
  intro n
  induction n with
  |zero=>intro p v d q f e; cases e
  |succ n ih =>
   intro p v d q f e H1 V T Y;rw[roundsIn_succ];have hl:=law p v (fun p v=>ajY (fun v G=>bF p v G fun i z=>K (L.xk i) (ù (L.tpl i) L.cs (L.zs i) p z)) n v) (fun i p z=>K (L.xk i) (ù (L.tpl i) L.cs (L.zs i) p z))
   have e':goC E call fid path L.pin bid b (ù L.head L.cs L.vs p v) (Eb L (fun p v=>ajY (fun v G=>bF p v G fun i z=>K (L.xk i) (ù (L.tpl i) L.cs (L.zs i) p z)) n v) (fun i p z=>K (L.xk i) (ù (L.tpl i) L.cs (L.zs i) p z)))=some r:=by
    rw[hl]; exact e
   refine wpIn_mono (wn hE hD O b bid _ _ d q f hin e' H1 T) fun x A o ha=>?_;obtain⟨u,C,H2,ev2,hp2,dd2,k⟩:=ha;have I:Ev m ν S.h w u C.h o:=V.trans ev2 c;have J:Dd m S.h C.h:=Y.trans dd2 c
   have out:∀x,x≠.normal->Eb L (fun p v=>ajY (fun v G=>bF p v G fun i z=>K (L.xk i) (ù (L.tpl i) L.cs (L.zs i) p z)) n v) (fun i p z=>K (L.xk i) (ù (L.tpl i) L.cs (L.zs i) p z)) x C=some r->abV m ν S.h w K r x A o:=by
    intro x hx k;unfold Eb at k
    split at k
    ·exact absurd rfl hx
    ·split at k<;>try (cases k; done)
     rename_i i hi
     split at k<;>try (cases k; done)
     rename_i Z z B;obtain⟨y,_,h1,h2⟩:=Ua _ _ _ _ hi
     have hxk:L.xk i=x:=by
      have:L.exits[i]?=some y:=by simpa using h1
      unfold Å.xk;rw[this];exact aaz h2
     obtain⟨s,H3,U,R,W⟩:=hM _ _ _ _ _ _ _ u A o B H2;have k:K (L.xk i) (ù (L.tpl i) L.cs (L.zs i) Z z)=some r:=k;rw[hxk] at k;exact⟨s,_,H3,I.trans U c,dr c R,J.trans W c,k⟩
   cases x with
   |normal =>
    simp only[Eb] at k
    split at k<;>try (cases k; done)
    rename_i Z v' B;obtain⟨s,H3,U,R,W⟩:=hM _ _ _ _ _ _ _ u A o B H2;exact ih Z v' s A o k H3 (I.trans U c) R (J.trans W c)
   |exit id=>exact out _ (by simp) k
   |ret=>exact out _ (by simp) k
   |goto l=>exact out _ (by simp) k
   |panic ch=>exact out _ (by simp) k
   |outgrown=>exact out _ (by simp) k
 exact key n p v d a w hn H1 (V.mono c) T (fun j hj hd=>Y j (by omega) hd)
end
end Go.Am
end

noncomputable section
namespace Go.Am
variable [Ghost]
section
variable {ν:Nat->Value} {h h':CK Blk} {w:World}
def ZW {t:Ty} {d:DV} {x:Val t} (e:Qh t d=some x):d=⟨t,x⟩:=by
 unfold Qh at e
 split at e<;>try (cases e; done)
 rename_i b _;obtain⟨ty,val⟩:=d;simp only at b;subst b;cases e;rfl
def aee (u:Ty) (l:CK Ty) (t:Ty) (d:DV) (b:CK DV):aef (u::l) t (d::b)=(match Qh t d with
 |some x=>match aef l u b with
  |some y=>some ((x,y):Val t×Val (tys u l))
  |none=>none
 |none=>none):=rfl
def ag3 (t:Ty) (x:Val t):aeC t [] x=[⟨t,x⟩]:=rfl
def aeB (t u:Ty) (l:CK Ty) (x:Val t) (y:Val (tys u l)):aeC t (u::l) ((x,y):Val t×Val (tys u l))=⟨t,x⟩::aeC u l y:=rfl
def aj4 (l:CK Ty):∀(t:Ty) (b:CK DV) (x:Val (tys t l)),aef l t b=some x->aeC t l x=b:=by
 induction l with
 |nil =>
  intro t b x e
  match b,e with
  |[],e=>exact absurd (show(none:BY (Val t))=some x from e) (fun h=>by cases h)
  |[d],e =>
   have e:Qh t d=some x:=e;rw[ZW e]; exact ag3 t x
  |_::_::_,e=>exact absurd (show(none:BY (Val t))=some x from e) (fun h=>by cases h)
 |cons u l i =>
  intro t b x e
  match b,e with
  |[],e=>exact absurd (show(none:BY (Val t×Val (tys u l)))=some x from e) (fun h=>by cases h)
  |d::b,e =>
   rw[aee] at e
   cases c:Qh t d with
   |none=>rw[c] at e; exact absurd (show(none:BY (Val t×Val (tys u l)))=some x from e) (fun h=>by cases h)
   |some y =>
    cases f:aef l u b with
    |none=>rw[c,f] at e; exact absurd (show(none:BY (Val t×Val (tys u l)))=some x from e) (fun h=>by cases h)
    |some z =>
     rw[c,f] at e;have e:((y,z):Val t×Val (tys u l))=x:=Option.some.inj e;rw[<-e,ZW c,<-i u b z f];exact aeB t u l y z
def ab7 (l:CK Ty) (b:CK DV) (x:Val (tyL l)) (e:amz l b=some x):aaL l x=b:=by
 cases l with
 |nil=>cases b with
  |nil=>rfl
  |cons=>cases e
 |cons t l=>exact aj4 l t b x e
def νb (B:CK Bd) (ν:Nat->Value) (i:Nat):Value :=
 match mu B i with
 |some (.at_ id)=>ν id
 |some .new=>.slice none 0 0
 |_=>undef
structure Ext (M M':Mt):Prop where
 bd:∀i id,mu M.bd i=some (.at_ id)->mu M'.bd i=some (.at_ id)
 new:∀i,mu M.bd i=some .new->mu M'.bd i=some .new
 cons:M.cons <+: M'.cons
 vars:M.vars <+: M'.vars
 freed:∀i∈M.freed,i∈M'.freed
 len:M'.bd.length=M.bd.length
def Ext.refl (M:Mt):Ext M M:=⟨fun _ _ h=>h,fun _ h=>h,eG,eG,fun _ h=>h,rfl⟩
def Ext.trans {M c b:Mt} (h:Ext M c) (k:Ext c b):Ext M b :=
 ⟨fun i id q=>k.bd i id (h.bd i id q),fun i q=>k.new i (h.new i q),h.cons.trans k.cons,h.vars.trans k.vars,fun i q=>k.freed i (h.freed i q),k.len.trans h.len⟩
def nS:∀(l:CK Bd) (d:Nat) (b:Bd) (i:Nat),mu (MJ l d b) i=if i=d/\d<l.length then some b else mu l i
 |[],d,v,i=>by simp[MJ,mu]
 |x::xs,0,v,0=>by simp[MJ,mu]
 |x::xs,0,v,i+1=>by simp[MJ,mu]
 |x::xs,d+1,v,0=>by simp[MJ,mu]
 |x::xs,d+1,v,i+1=>by simp[MJ,mu,nS xs d v i]
def AJ:∀(l:CK Bd) (d:Nat) (b:Bd),(MJ l d b).length=l.length
 |[],_,_=>rfl
 |_::_,0,_=>rfl
 |_::xs,d+1,v=>by simp[MJ,AJ xs d v]
def JH:∀{l:CK Bd} {i:Nat} {b:Bd},mu l i=some b->i<l.length
 |[],_,_,h=>by cases h
 |_::_,0,_,_=>g9 _
 |_::_,i+1,_,h=>Nat.succ_lt_succ (JH (by simpa[mu] using h))
def lY {M d:Mt} {i id:Nat} (e:Uq M i id=some d):Ext M d/\mu d.bd i=some (.at_ id)/\d.cons=M.cons/\d.vars=M.vars:=by
 unfold Uq at e
 split at e<;>try (cases e; done)
 ·rename_i b;cases e;have k:=JH b;refine⟨⟨fun j f q=>?_,fun j q=>?_,eG,eG,fun _ q=>q,AJ _ _ _⟩,by simp[nS,k],rfl,rfl⟩
  ·simp only[nS]
   by_cases c:j=i
   ·subst c; rw[b] at q; cases q
   ·simp[c,q]
  ·simp only[nS]
   by_cases c:j=i
   ·subst c; rw[b] at q; cases q
   ·simp[c,q]
 ·rename_i f b
  split at e<;>try (cases e; done)
  rename_i hi;cases e;rw[eq_of_beq hi] at b;exact⟨Ext.refl _,b,rfl,rfl⟩
def KQ {M c:Mt} {i:Nat} (e:abM M i=some c):Ext M c/\mu c.bd i=some .new/\c.cons=M.cons/\c.vars=M.vars:=by
 unfold abM at e
 split at e<;>try (cases e; done)
 rename_i d;cases e;have f:=JH d;refine⟨⟨fun j k q=>?_,fun j q=>?_,eG,eG,fun _ q=>q,AJ _ _ _⟩,by simp[nS,f],rfl,rfl⟩
 ·simp only[nS]
  by_cases b:j=i
  ·subst b; rw[d] at q; cases q
  ·simp[b,q]
 ·simp only[nS]
  by_cases b:j=i
  ·subst b; rw[d] at q; cases q
  ·simp[b,q]
def kin:Blk->Blk->Prop
 |.row t _ false xs,B=>B=.row t 0 false xs
 |.row t g true xs,B=>B=.row t g true xs
 |.map k v es,B=>B=.map k v es
 |.cells _,B=>∃b,B=.cells b
 |.dead,B=>B=.dead
 |.acc t xs,B=>B=.acc t xs
structure Fin (ν:Nat->Value) (h:CK Blk) (w:World) (M:Mt) (h':CK Blk):Prop where
 at_:∀i id,mu M.bd i=some (.at_ id)->kin (lkB h id) (lkB h' i)
 new:∀i,mu M.bd i=some .new->∃t,lkB h' i=.row t 0 false []
 out:∀i,(∀id,mu M.bd i≠some (.at_ id))->mu M.bd i≠some .new->lkB h' i=.dead
 freed:∀id∈M.freed,∀i,mu M.bd i≠some (.at_ id)
 inj:∀i j id,mu M.bd i=some (.at_ id)->mu M.bd j=some (.at_ id)->i=j
def Fin.live {M:Mt} (F:Fin ν h w M h') {b:Nat} (hb:Fp (νb M.bd ν) h' b):∃i id,mu M.bd i=some (.at_ id)/\(lkB h id).live=true/\Ś (ν id) b:=by
 obtain⟨i,c,j⟩:=hb
 cases d:mu M.bd i with
 |none=>rw[F.out i (by simp[d]) (by simp[d])] at c; cases c
 |some bd =>
  cases bd with
  |open_=>rw[F.out i (by simp[d]) (by simp[d])] at c; cases c
  |new=>simp only[νb,d] at j; cases j
  |at_ id =>
   refine⟨i,id,d,?_,by simpa[νb,d] using j⟩;have f:=F.at_ i id d
   cases e:lkB h id with
   |dead=>rw[e] at f; rw[show lkB h' i=_ from f] at c; cases c
   |cells=>rfl
   |map=>rfl
   |acc=>rfl
   |row t g fz xs =>
    cases fz with
    |false=>rfl
    |true=>rw[e] at f; rw[show lkB h' i=_ from f] at c; cases c
def Fin.subL {M:Mt} (F:Fin ν h w M h') (b:Nat) (hb:Fp (νb M.bd ν) h' b):Fp ν h b:=by
 obtain⟨i,id,_,h2,c⟩:=F.live hb;exact⟨id,h2,c⟩
def Fin.sub {M:Mt} (F:Fin ν h w M h') (b:Nat) (hb:Av (νb M.bd ν) h' b):Av ν h b:=hb.imp_left (F.subL b)
def adF (H:HR ν h w) {M:Mt} (F:Fin ν h w M h') {t:Ty} {v:AV} {u:Value} {x:Val t} (A:∀i∈T8 h v,i∈M.freed) (e:Û t [Ă h v]=some x) (z:VR ν h w v u) :
 VR (νb M.bd ν) h' w (afc ⟨t,x⟩) u:=by
 have c:∀(q:v.isAgg=false) (p:v.isTup=false),CR w (Av (νb M.bd ν) h') t x [u]:=by
  intro q p;have m:=z.one q p;refine Ġ e ⟨FB H F.sub m fun id b B l hb=>?_,trivial⟩;rintro(hlive|s)
  rotate_left
  ·exact H.ghne id b l hb s
  obtain⟨i,o,h2,E,C⟩:=F.live hlive;have r:id=o:=H.inj id o b l E hb C;subst r;refine F.freed id (A id ?_) i h2;rcases B with⟨g,rfl⟩|⟨g,lo,n,rfl⟩|rfl
  ·obtain⟨_,y,g',fz,xs,j,_⟩:=m;rw[j] at l
   cases fz with
   |true=>cases l
   |false=>simp[T8,j]
  ·obtain⟨_,y,g',fz,xs,j,_⟩:=m;rw[j] at l
   cases fz with
   |true=>cases l
   |false=>simp[T8,j]
  ·simp[T8]
 have fin:(t≠.unit/\∀a b,t≠.pair a b)->v.isAgg=false/\v.isTup=false:=fun⟨m,h2⟩=>by
  constructor
  ·cases v<;>try rfl
   cases t<;>first|(exact absurd rfl m)|(exact absurd rfl (h2 _ _))|(simp[Ă,Û,Β] at e)
  ·cases v<;>try rfl
   cases t<;>first|(exact absurd rfl m)|(exact absurd rfl (h2 _ _))|(simp[Ă,Û,Β] at e)
 cases t with
 |unit=>trivial
 |pair a b=>trivial
 |bool=>obtain⟨f,d⟩:=fin ⟨by simp,by simp⟩; exact KM (c f d)
 |int k=>obtain⟨f,d⟩:=fin ⟨by simp,by simp⟩; exact KM (c f d)
 |str=>obtain⟨f,d⟩:=fin ⟨by simp,by simp⟩; exact KM (c f d)
 |slice t=>obtain⟨f,d⟩:=fin ⟨by simp,by simp⟩; exact KM (c f d)
 |map k v=>obtain⟨f,d⟩:=fin ⟨by simp,by simp⟩; exact KM (c f d)
 |ptr t=>obtain⟨f,d⟩:=fin ⟨by simp,by simp⟩; exact KM (c f d)
def œ {α:Type} {l C:CK α} {d:α} (h:(l++[d]) <+: C):C.drop l.length=d::C.drop (l.length+1):=by
 obtain⟨t,rfl⟩:=h;simp[dj]
def qP {B:CK Bd} {i id:Nat} (h:mu B i=some (.at_ id)):νb B ν i=ν id:=by simp[νb,h]
def afX {B:CK Bd} {i:Nat} (h:mu B i=some .new):νb B ν i=.slice none 0 0:=by simp[νb,h]
def ln:∀(ps:CK (Nat×Nat)) (vs:CK AV) (us:CK Value) (M M1:Mt),zm h ps vs M=some M1->Ext M M1/\M1.cons=M.cons/\M1.vars=M.vars /\
 ∀d,Ext M1 d->Fin ν h w d h'->Ē (VR0 ν h w) vs us->Ē (VR0 (νb d.bd ν) h' w) (ps.map fun c=>.box c.1 c.2) us
 |[],[],us,M,M1,e=>by
  cases e;exact⟨Ext.refl _,rfl,rfl,fun d _ _ f=>by cases us with|nil=>trivial|cons=>exact f.elim⟩
 |[],_::_,_,_,_,e=>by cases e
 |_::_,[],_,_,_,e=>by cases e
 |(i,o)::ps,v::vs,us,M,M1,e=>by
  cases v<;>try (simp[zm] at e; done)
  rename_i id off;simp only[zm] at e
  split at e<;>try (cases e; done)
  rename_i r
  split at e<;>try (cases e; done)
  rename_i cs s
  split at e<;>try (cases e; done)
  rename_i q hb;obtain⟨y,C,B,v1⟩:=lY hb;obtain⟨p,A,v2,_⟩:=ln ps vs us q M1 e;refine⟨y.trans p,A.trans B,v2.trans v1,fun d m F f=>?_⟩
  cases us with
  |nil=>exact f.elim
  |cons u us =>
   refine⟨?_,(ln ps vs us q M1 e).2.2.2 d m F f.2⟩;obtain⟨z,b,E,h2,x⟩:=f.1;have j:=m.bd i id (p.bd i id C);have k:=F.at_ i id j;rw[s] at k;obtain⟨l,k⟩:=k;exact⟨l,b,k,(qP j).trans h2,by rw[eq_of_beq r]; exact x⟩
def rest (b M:Mt):It:=⟨b.cons.drop M.cons.length,b.vars.drop M.vars.length⟩
def uF:∀(ts:CK Ty) (vs:CK AV) (M M1:Mt),zl ts vs M=some M1->Ext M M1/\∀c,Ext M1 c->(Bz ts (rest c M)).2=rest c M1 /\
 ∀us:CK Value,Fin ν h w c h'->Ē (VR0 ν h w) vs us->Ē (VR0 (νb c.bd ν) h' w) (Bz ts (rest c M)).1 us
 |[],[],M,M1,e=>by
  cases e;exact⟨Ext.refl _,fun c _=>⟨rfl,fun us _ d=>by cases us with|nil=>trivial|cons=>exact d.elim⟩⟩
 |[],_::_,_,_,e=>by cases e
 |_::_,[],_,_,e=>by cases e
 |t::ts,v::vs,M,M1,e=>by
  cases v<;>try (simp[zl] at e; done)
  rename_i i x o;simp only[zl] at e
  split at e<;>try (cases e; done)
  rename_i f
  split at e<;>try (cases e; done)
  rename_i E _;have f:=dt f;subst f;obtain⟨m,r⟩:=uF ts vs _ M1 e;have C:Ext M {M with cons:=M.cons++[⟨.ptr i,x⟩]}:=⟨fun _ _ q=>q,fun _ q=>q,ew _ _,eG,fun _ q=>q,rfl⟩;refine⟨C.trans m,fun c l=>?_⟩;obtain⟨k,j⟩:=r c l;have hd:=œ (m.trans l).cons
  have s:rest c {M with cons:=M.cons++[⟨.ptr i,x⟩]}=⟨c.cons.drop (M.cons.length+1),c.vars.drop M.vars.length⟩:=by simp[rest]
  rw[s] at k j;simp only[rest,Bz,hd];refine⟨k,fun us F d=>?_⟩
  cases us with
  |nil=>exact d.elim
  |cons u us =>
   refine⟨?_,j us F d.2⟩;obtain⟨b,o,p,B,h2,A,z,y⟩:=d.1;exact⟨b,o,p,B,fun h=>h2 (F.sub b h),A,CR.mono F.sub z,y⟩
def Nu (H:HR ν h w) {p:Pat} {v:AV} {M M1:Mt} (e:iY h p v M=some M1):Ext M M1/\∀c u,Ext M1 c->Fin ν h w c h'->VR ν h w v u ->
 VR (νb c.bd ν) h' w (xH p ⟨c.cons.drop M.cons.length,c.vars.drop M.vars.length⟩).1 u /\
  (xH p ⟨c.cons.drop M.cons.length,c.vars.drop M.vars.length⟩).2=⟨c.cons.drop M1.cons.length,c.vars.drop M1.vars.length⟩:=by
 cases p with
 |any=>cases e; exact⟨Ext.refl _,fun c u _ _ _=>⟨trivial,rfl⟩⟩
 |con t =>
  simp only[iY] at e
  split at e<;>try (cases e; done)
  rename_i x G;cases e;refine⟨⟨fun _ _ q=>q,fun _ q=>q,ew _ _,eG,fun _ q=>dR _ q,rfl⟩,fun c u j F d=>?_⟩;have hd:=œ j.cons;simp only[xH,hd];exact⟨adF H F (fun i hi=>j.freed i (dU _ hi)) G d,by simp⟩
 |var t =>
  simp only[iY] at e
  split at e<;>try (cases e; done)
  rename_i x G;cases e;refine⟨⟨fun _ _ q=>q,fun _ q=>q,eG,ew _ _,fun _ q=>dR _ q,rfl⟩,fun c u j F d=>?_⟩;have hd:=œ j.vars;simp only[xH,hd];exact⟨adF H F (fun i hi=>j.freed i (dU _ hi)) G d,by simp⟩
 |own i =>
  simp only[iY] at e
  split at e<;>try (cases e; done)
  ·rename_i id g
   split at e<;>try (cases e; done)
   rename_i t g' xs z
   split at e<;>try (cases e; done)
   rename_i U;obtain⟨o,y,r,v1⟩:=lY e;refine⟨o,fun c u j F d=>⟨?_,by simp only[xH,r,v1]⟩⟩;have l:=j.bd i id y;have m:=F.at_ i id l;rw[z] at m;obtain⟨J,t2,g2,W,S,s,_,I⟩:=d;rw[z] at s; cases s;exact⟨J,t,0,false,xs,m,cX _,fun _=>(I (eq_of_beq U)).trans (qP l).symm⟩
  ·obtain⟨o,y,r,v1⟩:=KQ e;refine⟨o,fun c u j F d=>⟨?_,by simp only[xH,r,v1]⟩⟩;have B:=j.new i y;obtain⟨t,m⟩:=F.new i B;have R:u=.slice none 0 0:=d;exact⟨by rw[R]; rfl,t,0,false,[],m,cX _,fun _=>R.trans (afX B).symm⟩
 |omp i =>
  simp only[iY] at e
  split at e<;>try (cases e; done)
  rename_i id
  split at e<;>try (cases e; done)
  rename_i k T es z;obtain⟨o,y,r,v1⟩:=lY e;refine⟨o,fun c u j F d=>⟨?_,by simp only[xH,r,v1]⟩⟩;have l:=j.bd i id y;have m:=F.at_ i id l;rw[z] at m;obtain⟨J,O,v2,Z,s,I⟩:=d;exact⟨J,k,T,es,m,I.trans (qP l).symm⟩
 |box i off =>
  simp only[iY] at e
  split at e<;>try (cases e; done)
  rename_i id N
  split at e<;>try (cases e; done)
  rename_i A
  split at e<;>try (cases e; done)
  rename_i cs z;obtain⟨o,y,r,v1⟩:=lY e;refine⟨o,fun c u j F d=>⟨?_,by simp only[xH,r,v1]⟩⟩;have l:=j.bd i id y;have m:=F.at_ i id l;rw[z] at m;obtain⟨L,m⟩:=m;obtain⟨cs',b,h1,h2,V⟩:=d;exact⟨L,b,m,(qP l).trans h2,by rw[eq_of_beq A]; exact V⟩
 |nils =>
  simp only[iY] at e
  split at e<;>try (cases e; done)
  cases e;exact⟨Ext.refl _,fun c u _ _ d=>⟨d,rfl⟩⟩
 |nilp =>
  simp only[iY] at e
  split at e<;>try (cases e; done)
  cases e;exact⟨Ext.refl _,fun c u _ _ d=>⟨d,rfl⟩⟩
 |nilfn =>
  simp only[iY] at e
  split at e<;>try (cases e; done)
  cases e;exact⟨Ext.refl _,fun c u _ _ d=>⟨d,rfl⟩⟩
 |yld =>
  simp only[iY] at e
  split at e<;>try (cases e; done)
  cases e;exact⟨Ext.refl _,fun c u _ _ d=>⟨d,rfl⟩⟩
 |fn f caps =>
  simp only[iY] at e
  split at e<;>try (cases e; done)
  rename_i Y vs
  split at e<;>try (cases e; done)
  rename_i K;obtain⟨o,r,v1,_⟩:=ln (ν:=ν) (w:=w) (h':=h') caps vs [] M M1 e;refine⟨o,fun c u j F d=>⟨?_,by simp only[xH,r,v1]⟩⟩;obtain⟨fs,cs,rfl,E,C⟩:=d;have:=(ln (ν:=ν) (w:=w) (h':=h') caps vs cs.toList M M1 e).2.2.2 c j F C;exact⟨fs,cs,by rw[eq_of_beq K],by rw[E.nil_left]; trivial,this⟩
 |fnd f ts =>
  simp only[iY] at e
  split at e<;>try (cases e; done)
  rename_i Y vs
  split at e<;>try (cases e; done)
  rename_i K;obtain⟨o,k⟩:=uF (ν:=ν) (h:=h) (w:=w) (h':=h') ts vs M M1 e;refine⟨o,fun c u j F d=>?_⟩;obtain⟨k1,O⟩:=k c j;obtain⟨fs,cs,rfl,E,C⟩:=d;exact⟨⟨fs,cs,by rw[eq_of_beq K],by rw[E.nil_left]; trivial,O cs.toList F C⟩,k1⟩
def MV {b M M1:Mt} (c:M1.cons=M.cons) (h2:M1.vars=M.vars):rest b M=rest b M1:=by simp only[rest,c,h2]
def wU {p:Pat} {v:AV} {M M1:Mt} (e:iY h p v M=some M1):Ext M M1/\∀b,Ext M1 b->(xH p (rest b M)).2=rest b M1:=by
 cases p with
 |any=>cases e; exact⟨Ext.refl _,fun b _=>rfl⟩
 |con t =>
  simp only[iY] at e
  split at e<;>try (cases e; done)
  rename_i x m;cases e;refine⟨⟨fun _ _ q=>q,fun _ q=>q,ew _ _,eG,fun _ q=>dR _ q,rfl⟩,fun b d=>?_⟩;have hd:=œ d.cons;simp only[rest,xH,hd]; simp
 |var t =>
  simp only[iY] at e
  split at e<;>try (cases e; done)
  rename_i x m;cases e;refine⟨⟨fun _ _ q=>q,fun _ q=>q,eG,ew _ _,fun _ q=>dR _ q,rfl⟩,fun b d=>?_⟩;have hd:=œ d.vars;simp only[rest,xH,hd]; simp
 |own i =>
  simp only[iY] at e
  split at e<;>try (cases e; done)
  ·split at e<;>try (cases e; done)
   split at e<;>try (cases e; done)
   obtain⟨c,l,j,v1⟩:=lY e;exact⟨c,fun b d=>MV j v1⟩
  ·obtain⟨c,l,j,v1⟩:=KQ e;exact⟨c,fun b d=>MV j v1⟩
 |omp i =>
  simp only[iY] at e
  split at e<;>try (cases e; done)
  split at e<;>try (cases e; done)
  obtain⟨c,l,j,v1⟩:=lY e;exact⟨c,fun b d=>MV j v1⟩
 |box i off =>
  simp only[iY] at e
  split at e<;>try (cases e; done)
  split at e<;>try (cases e; done)
  split at e<;>try (cases e; done)
  obtain⟨c,l,j,v1⟩:=lY e;exact⟨c,fun b d=>MV j v1⟩
 |nils =>
  simp only[iY] at e
  split at e<;>try (cases e; done)
  cases e; exact⟨Ext.refl _,fun b _=>rfl⟩
 |nilp =>
  simp only[iY] at e
  split at e<;>try (cases e; done)
  cases e; exact⟨Ext.refl _,fun b _=>rfl⟩
 |nilfn =>
  simp only[iY] at e
  split at e<;>try (cases e; done)
  cases e; exact⟨Ext.refl _,fun b _=>rfl⟩
 |yld =>
  simp only[iY] at e
  split at e<;>try (cases e; done)
  cases e; exact⟨Ext.refl _,fun b _=>rfl⟩
 |fn f caps =>
  simp only[iY] at e
  split at e<;>try (cases e; done)
  rename_i o vs
  split at e<;>try (cases e; done)
  obtain⟨c,j,v1,_⟩:=ln (ν:=fun _=>undef) (w:=default) (h':=[]) caps vs [] M M1 e;exact⟨c,fun b d=>MV j v1⟩
 |fnd f ts =>
  simp only[iY] at e
  split at e<;>try (cases e; done)
  rename_i o vs
  split at e<;>try (cases e; done)
  obtain⟨c,k⟩:=uF (ν:=fun _=>undef) (h:=[]) (w:=default) (h':=[]) ts vs M M1 e;exact⟨c,fun b d=>(k b d).1⟩
def wm (p:Pat) (ps:CK Pat) (I:It):JL (p::ps) I=((xH p I).1::(JL ps (xH p I).2).1,(JL ps (xH p I).2).2):=rfl
def En:∀{ps:CK Pat} {vs:CK AV} {M M1:Mt},Td h ps vs M=some M1->Ext M M1/\∀b,Ext M1 b->(JL ps (rest b M)).2=rest b M1
 |[],vs,M,M1,e=>by cases e; exact⟨Ext.refl _,fun b _=>rfl⟩
 |p::ps,vs,M,M1,e=>by
  simp only[Td] at e
  split at e<;>try (cases e; done)
  rename_i k i;obtain⟨j,f⟩:=wU i;obtain⟨d,t2⟩:=En e;exact⟨j.trans d,fun b c=>by rw[wm,f b (d.trans c)]; exact t2 b c⟩
def Yh (H:HR ν h w):∀{ps:CK Pat} {vs:CK AV} {M M1:Mt},Td h ps vs M=some M1->∀b,Ext M1 b->Fin ν h w b h'->∀f:Nat->Value,(∀k,VR ν h w (lk vs k) (f k)) ->
 ∀k,VR (νb b.bd ν) h' w (lk (JL ps (rest b M)).1 k) (f k)
 |[],vs,M,M1,e,b,_,_,f,_,k=>trivial
 |p::ps,vs,M,M1,e,b,c,F,f,d,k=>by
  simp only[Td] at e
  split at e<;>try (cases e; done)
  rename_i q i;obtain⟨o,l⟩:=wU i;obtain⟨j,t2⟩:=En e;rw[wm,l b (j.trans c)]
  cases k with
  |zero=>exact((Nu H i).2 b (f 0) (j.trans c) F (d 0)).1
  |succ k =>
   have m:∀k,lk vs.tail k=lk vs (k+1):=fun k=>by cases vs<;>rfl
   exact Yh H e b c F (fun k=>f (k+1)) (fun k=>by rw[m]; exact d (k+1)) k
def qX:∀{ps:CK Pat} {vs:CK AV} {M M1:Mt},qH h ps vs M=some M1->Ext M M1/\∀b,Ext M1 b->(JL ps (rest b M)).2=rest b M1
 |[],[],M,M1,e=>by cases e; exact⟨Ext.refl _,fun b _=>rfl⟩
 |[],_::_,M,M1,e=>by cases e
 |_::_,[],M,M1,e=>by cases e
 |p::ps,v::vs,M,M1,e=>by
  simp only[qH] at e
  split at e<;>try (cases e; done)
  rename_i k i;obtain⟨j,f⟩:=wU i;obtain⟨d,t2⟩:=qX e;exact⟨j.trans d,fun b c=>by rw[wm,f b (d.trans c)]; exact t2 b c⟩
def ae1 (p:Pat) (I:It):(xH p I).1.isAgg=false/\(xH p I).1.isTup=false:=by
 have b:∀d:DV,(afc d).isAgg=false/\(afc d).isTup=false:=fun d=>by
  obtain⟨t,x⟩:=d
  cases t<;>exact⟨rfl,rfl⟩
 cases p<;>simp only[xH]<;>try exact⟨rfl,rfl⟩
 ·split<;>first|exact b _|exact⟨rfl,rfl⟩
 ·split<;>first|exact b _|exact⟨rfl,rfl⟩
def F5 (H:HR ν h w):∀{ps:CK Pat} {vs:CK AV} {us:CK Value} {M M1:Mt},qH h ps vs M=some M1->∀b,Ext M1 b->Fin ν h w b h'->Ē (VRc ν h w) vs us ->
 Ē (VRc (νb b.bd ν) h' w) (JL ps (rest b M)).1 us
 |[],[],us,M,M1,e,b,_,_,c=>by cases us with|nil=>trivial|cons=>exact c.elim
 |[],_::_,_,M,M1,e,_,_,_,_=>by cases e
 |_::_,[],_,M,M1,e,_,_,_,_=>by cases e
 |p::ps,v::vs,us,M,M1,e,b,f,F,c=>by
  simp only[qH] at e
  split at e<;>try (cases e; done)
  rename_i m i;obtain⟨l,k⟩:=wU i;obtain⟨j,t2⟩:=qX e;rw[wm,k b (j.trans f)]
  cases us with
  |nil=>exact c.elim
  |cons u us =>
   have h2:=((Nu H i).2 b u (j.trans f) F c.1.1.up).1;have d:=ae1 p (rest b M);exact⟨⟨h2.one d.1 d.2,c.1.2⟩,F5 H e b f F c.2⟩
def Mw (M:Mt) (d:DV):Ext M {M with cons:=M.cons++[d]}:=⟨fun _ _ q=>q,fun _ q=>q,ew _ _,eG,fun _ q=>q,rfl⟩
def Mv (M:Mt) (d:DV):Ext M {M with vars:=M.vars++[d]}:=⟨fun _ _ q=>q,fun _ q=>q,eG,ew _ _,fun _ q=>q,rfl⟩
def Nt {p:jo} {i:Nat} {M M1:Mt} (e:mD h p i M=some M1):Ext M M1/\∀c,Ext M1 c->(Cz p (rest c M)).2=rest c M1 /\
 ((∃id,mu M.bd i=some (.at_ id)/\kin (lkB h id) (Cz p (rest c M)).1)\/(mu M.bd i=some .new/\∃t,(Cz p (rest c M)).1=.row t 0 false [])):=by
 cases p with
 |dead =>
  simp only[mD] at e
  split at e<;>try (cases e; done)
  rename_i id hb
  split at e<;>try (cases e; done)
  rename_i d;cases e;exact⟨Ext.refl _,fun c _=>⟨rfl,.inl ⟨id,hb,by rw[d]; rfl⟩⟩⟩
 |cells ps =>
  simp only[mD] at e
  split at e<;>try (cases e; done)
  rename_i id hb
  split at e<;>try (cases e; done)
  rename_i cs d;obtain⟨q,l⟩:=qX e;exact⟨q,fun c b=>⟨l c b,.inl ⟨id,hb,by rw[d]; exact⟨_,rfl⟩⟩⟩⟩
 |rowc t =>
  simp only[mD] at e
  split at e<;>try (cases e; done)
  ·rename_i id hb
   split at e<;>try (cases e; done)
   rename_i f g xs d
   split at e<;>try (cases e; done)
   cases e;refine⟨Mw _ _,fun c b=>?_⟩;have hd:=œ b.cons;simp only[rest,Cz,hd];exact⟨by simp,.inl ⟨id,hb,by rw[d]; rfl⟩⟩
  ·rename_i hb;cases e;refine⟨Mw _ _,fun c b=>?_⟩;have hd:=œ b.cons;simp only[rest,Cz,hd];exact⟨by simp,.inr ⟨hb,t,rfl⟩⟩
 |rowf t g =>
  simp only[mD] at e
  split at e<;>try (cases e; done)
  rename_i id hb
  split at e<;>try (cases e; done)
  rename_i f g' xs d
  split at e<;>try (cases e; done)
  split at e<;>try (cases e; done)
  rename_i o _;subst o;cases e;refine⟨Mw _ _,fun c b=>?_⟩;have hd:=œ b.cons;simp only[rest,Cz,hd];exact⟨by simp,.inl ⟨id,hb,by rw[d]; rfl⟩⟩
 |rowv t =>
  simp only[mD] at e
  split at e<;>try (cases e; done)
  ·rename_i id hb
   split at e<;>try (cases e; done)
   rename_i f g xs d
   split at e<;>try (cases e; done)
   cases e;refine⟨Mv _ _,fun c b=>?_⟩;have hd:=œ b.vars;simp only[rest,Cz,hd];exact⟨by simp,.inl ⟨id,hb,by rw[d]; rfl⟩⟩
  ·rename_i hb;cases e;refine⟨Mv _ _,fun c b=>?_⟩;have hd:=œ b.vars;simp only[rest,Cz,hd];exact⟨by simp,.inr ⟨hb,t,rfl⟩⟩
 |mapc k v =>
  simp only[mD] at e
  split at e<;>try (cases e; done)
  rename_i id hb
  split at e<;>try (cases e; done)
  rename_i m j es d
  split at e<;>try (cases e; done)
  cases e;refine⟨Mw _ _,fun c b=>?_⟩;have hd:=œ b.cons;simp only[rest,Cz,hd];exact⟨by simp,.inl ⟨id,hb,by rw[d]; rfl⟩⟩
 |mapv k v =>
  simp only[mD] at e
  split at e<;>try (cases e; done)
  rename_i id hb
  split at e<;>try (cases e; done)
  rename_i m j es d
  split at e<;>try (cases e; done)
  cases e;refine⟨Mv _ _,fun c b=>?_⟩;have hd:=œ b.vars;simp only[rest,Cz,hd];exact⟨by simp,.inl ⟨id,hb,by rw[d]; rfl⟩⟩
 |acc t =>
  simp only[mD] at e
  split at e<;>try (cases e; done)
  rename_i id hb
  split at e<;>try (cases e; done)
  rename_i f xs d
  split at e<;>try (cases e; done)
  cases e;refine⟨Mv _ _,fun c b=>?_⟩;have hd:=œ b.vars;simp only[rest,Cz,hd];exact⟨by simp,.inl ⟨id,hb,by rw[d]; rfl⟩⟩
def ahg (H:HR ν h w) {p:jo} {i id:Nat} {M M1:Mt} {cs:CK AV} (e:mD h p i M=some M1) (hb:mu M.bd i=some (.at_ id)) (b:lkB h id=.cells cs) {d:Mt} (j:Ext M1 d) (F:Fin ν h w d h') {us:CK Value} (f:Ē (VRc ν h w) cs us) :
 ∃c,(Cz p (rest d M)).1=.cells c/\Ē (VRc (νb d.bd ν) h' w) c us:=by
 cases p with
 |cells ps =>
  simp only[mD,hb,b] at e;exact⟨_,rfl,F5 H e d j F f⟩
 |dead=>simp[mD,hb,b] at e
 |rowc t=>simp[mD,hb,b] at e
 |rowf t g=>simp[mD,hb,b] at e
 |rowv t=>simp[mD,hb,b] at e
 |mapc k v=>simp[mD,hb,b] at e
 |mapv k v=>simp[mD,hb,b] at e
 |acc t=>simp[mD,hb,b] at e
def JM (p:jo) (ps:CK jo) (I:It):HU (p::ps) I=((Cz p I).1::(HU ps (Cz p I).2).1,(HU ps (Cz p I).2).2):=rfl
def AM:∀(ps:CK jo) (I:It),(HU ps I).1.length=ps.length
 |[],_=>rfl
 |p::ps,I=>by rw[JM]; simp[AM ps]
def Eo:∀{ps:CK jo} {i:Nat} {M M1:Mt},Te h ps i M=some M1->Ext M M1/\∀b,Ext M1 b->∀k,k<ps.length ->
 (∃id,mu b.bd (i+k)=some (.at_ id)/\kin (lkB h id) (lkB (HU ps (rest b M)).1 k))\/(mu b.bd (i+k)=some .new/\∃t,lkB (HU ps (rest b M)).1 k=.row t 0 false [])
 |[],i,M,M1,e=>by cases e; exact⟨Ext.refl _,fun b _ k l=>by simp at l⟩
 |p::ps,i,M,M1,e=>by
  simp only[Te] at e
  split at e<;>try (cases e; done)
  rename_i u s;obtain⟨m,r⟩:=Nt s;obtain⟨d,t2⟩:=Eo e;refine⟨m.trans d,fun b c k l=>?_⟩;obtain⟨q,o⟩:=r b (d.trans c);rw[JM,q]
  cases k with
  |zero =>
   rcases o with⟨id,j,f⟩|⟨j,f⟩
   ·exact .inl ⟨id,(m.trans (d.trans c)).bd _ _ j,f⟩
   ·exact .inr ⟨(m.trans (d.trans c)).new _ j,f⟩
  |succ k =>
   have:=t2 b c k (by simpa using l);rw[show i+(k+1)=i+1+k by omega];exact this
def Yi (H:HR ν h w):∀{ps:CK jo} {i:Nat} {M M1:Mt},Te h ps i M=some M1->∀c,Ext M1 c->Fin ν h w c h'->∀k id cs us,k<ps.length->mu c.bd (i+k)=some (.at_ id)->lkB h id=.cells cs->Ē (VRc ν h w) cs us ->
 ∃f,lkB (HU ps (rest c M)).1 k=.cells f/\Ē (VRc (νb c.bd ν) h' w) f us
 |[],i,M,M1,e,c,_,_,k,_,_,_,m,_,_,_=>by simp at m
 |p::ps,i,M,M1,e,c,d,F,k,id,cs,us,m,hb,q,o=>by
  simp only[Te] at e
  split at e<;>try (cases e; done)
  rename_i A r;obtain⟨s,x⟩:=Nt r;obtain⟨l,t2⟩:=Eo e;obtain⟨v,u⟩:=x c (l.trans d);rw[JM,v]
  cases k with
  |zero =>
   rcases u with⟨z,j,y⟩|⟨j,y⟩
   ·have:=(s.trans (l.trans d)).bd _ _ j;have b:mu c.bd i=some (.at_ id):=hb;rw[this] at b;cases b;exact ahg H r j q (l.trans d) F o
   ·have:=(s.trans (l.trans d)).new _ j;have b:mu c.bd i=some (.at_ id):=hb;rw[this] at b;cases b
  |succ k=>exact Yi H e c d F k id cs us (by simpa using m) (by rw[show i+1+k=i+(k+1) by omega]; exact hb) q o
def HZ:∀{l:CK Bd} {i id:Nat},mu l i=some (.at_ id)->id∈LM l
 |[],_,_,h=>by cases h
 |x::l,0,id,h=>by
  simp only[mu,Option.some.injEq] at h;subst h; simp[LM]
 |x::l,i+1,id,h=>by
  have:=HZ (l:=l) (i:=i) (id:=id) h
  cases x<;>simp[LM,this]
def KN:∀{l:CK Bd} {i j id:Nat},distinct (LM l)=true->mu l i=some (.at_ id)->mu l j=some (.at_ id)->i=j
 |[],_,_,_,_,h,_=>by cases h
 |x::l,0,0,_,_,_,_=>rfl
 |x::l,0,j+1,id,hd,b,h2=>by
  simp only[mu,Option.some.injEq] at b;subst b;simp only[LM,distinct,cY] at hd;have:=HZ (l:=l) (i:=j) (id:=id) h2;simp[this] at hd
 |x::l,i+1,0,id,hd,b,h2=>by
  simp only[mu,Option.some.injEq] at h2;subst h2;simp only[LM,distinct,cY] at hd;have:=HZ (l:=l) (i:=i) (id:=id) b;simp[this] at hd
 |x::l,i+1,j+1,id,hd,b,h2=>by
  have c:distinct (LM l)=true:=by
   cases x<;>simp only[LM,distinct,cY] at hd<;>first|exact hd|exact hd.2
  rw[KN (l:=l) c b h2]
def aej {pin n i:Nat} (hi:i<pin) (c:pin<=n):mu (Ec pin n) i=some (.at_ i):=by
 have key:∀(l:CK Bd) (k:Nat),mu l k=l[k]?:=by
  intro l
  induction l with
  |nil=>intro k; simp[mu]
  |cons x l b=>intro k; cases k with
   |zero=>rfl
   |succ k=>simpa[mu] using b k
 rw[key,Ec,eW,gk (by omega)];simp[hi]
def T6:∀{pin:Nat},akV h pin=true->∀i,i<pin->∀t g xs,lkB h i=.row t g false xs->g=0
 |0,_,i,hi,_,_,_,_=>by omega
 |pin+1,b,i,hi,t,g,xs,d=>by
  simp only[akV] at b
  split at b<;>try (cases b; done)
  rename_i c;rcases gX.1 hi with e|rfl
  ·exact T6 b i e t g xs d
  ·cases g with
   |zero=>rfl
   |succ g=>exact absurd d (c _ _ _)
def TV:∀(l:CK AV) (n k:Nat),lk (l++List.replicate n .any) k=lk l k
 |[],0,_=>rfl
 |[],n+1,0=>rfl
 |[],n+1,k+1=>by simpa[gq,lk] using TV [] n k
 |x::l,n,0=>rfl
 |x::l,n,k+1=>by simpa[lk] using TV l n k
def KE:∀(ps:CK Pat) (I:It),(JL ps I).1.length=ps.length
 |[],_=>rfl
 |p::ps,I=>by rw[wm]; simp[KE ps]
def Ma:ajN:=by
 intro T pin cs vs S p v ν a w e H;unfold yq at e
 split at e<;>try (cases e; done)
 rename_i hc;simp only[cY,decide_eq_true_eq] at hc;obtain⟨c1,c2,c3,c4⟩:=hc
 split at e<;>try (cases e; done)
 rename_i N hL
 split at e<;>try (cases e; done)
 rename_i M hH
 split at e<;>try (cases e; done)
 rename_i hd;simp only[cY,dG] at hd;obtain⟨d1,d2⟩:=hd
 split at e<;>try (cases e; done)
 rename_i p' v' hp hv;cases e;have ep:aaL cs p=M.cons:=ab7 cs _ _ hp;have ev:aaL vs v=M.vars:=ab7 vs _ _ hv;obtain⟨eL,tL⟩:=En hL;obtain⟨Y,Z⟩:=Eo hH
 -- the state of the pattern
 have hI0:({cons:=aaL cs p,vars:=aaL vs v}:It)=rest M {bd:=Ec pin T.heap.length,cons:=[],vars:=[],freed:=[]}:=by
  simp[rest,ep,ev]
 have J:ù T cs vs p v={t:=(JL T.slots (rest M {bd:=Ec pin T.heap.length,cons:=[],vars:=[],freed:=[]})).1++List.replicate (T.n-T.slots.length) .any,h:=(HU T.heap (rest M N)).1}:=by
  unfold ù;rw[hI0];have:=tL M Y;show(St.mk _ _)=_;rw[show(JL T.slots (rest M {bd:=Ec pin T.heap.length,cons:=[],vars:=[],freed:=[]})).2=rest M N from this]
 rw[J]
 have q:M.bd.length=T.heap.length:=by rw[Y.len,eL.len]; simp[Ec]
 have z:(HU T.heap (rest M N)).1.length=T.heap.length:=AM _ _
 have F:Fin ν S.h w M (HU T.heap (rest M N)).1:=by
  refine⟨fun i id hb=>?_,fun i hb=>?_,fun i h1 h2=>?_,fun id hid i hb=>?_,fun i j id=>KN d1⟩
  ·have hi:i<T.heap.length:=by rw[<-q]; exact JH hb
   rcases Z M (Ext.refl _) i hi with⟨y,d,l⟩|⟨d,_⟩
   ·rw[dO,hb] at d; cases d; exact l
   ·rw[dO,hb] at d; cases d
  ·have hi:i<T.heap.length:=by rw[<-q]; exact JH hb
   rcases Z M (Ext.refl _) i hi with⟨y,d,l⟩|⟨d,l⟩
   ·rw[dO,hb] at d; cases d
   ·exact l
  ·rcases dk i T.heap.length with hi|hi
   ·rcases Z M (Ext.refl _) i hi with⟨y,d,l⟩|⟨d,l⟩
    ·rw[dO] at d; exact absurd d (h1 y)
    ·rw[dO] at d; exact absurd d h2
   ·exact Zr _ _ (by rw[z]; exact hi)
  ·have:=d2 id hid;have hm:=HZ hb;simp[hm] at this
 have hHR:HR (νb M.bd ν) (HU T.heap (rest M N)).1 w:=by
  refine⟨fun i=>?_,fun i j b hi hj A hbj=>?_,H.heap.ghlt,fun i b r hb hg=>?_⟩
  rotate_left 2
  ·obtain⟨id,d,l⟩:=F.subL b ⟨i,r,hb⟩;exact H.heap.ghne id b d l hg
  ·cases hb:mu M.bd i with
   |none=>rw[F.out i (by simp[hb]) (by simp[hb])]; trivial
   |some x =>
    cases x with
    |open_=>rw[F.out i (by simp[hb]) (by simp[hb])]; trivial
    |new =>
     obtain⟨t,ht⟩:=F.new i hb;rw[ht];exact⟨none,0,afX hb,cX _,.inl ⟨rfl,rfl⟩⟩
    |at_ id =>
     have f:=F.at_ i id hb;have E:=H.heap.blk id
     cases r:lkB S.h id with
     |dead=>rw[r] at f; rw[show lkB _ i=_ from f]; trivial
     |cells c =>
      rw[r] at E;obtain⟨b,W,e',d,l,s⟩:=E
      have hi:i<T.heap.length:=by rw[<-q]; exact JH hb
      obtain⟨cs',C,I⟩:=Yi H.heap hH M (Ext.refl _) F i id c W.toList hi (by rw[dO]; exact hb) r s;rw[C];exact⟨b,W,e',(qP hb).trans d,l,I⟩
     |row t g fz xs =>
      rw[r] at f E
      cases fz with
      |true =>
       rw[show lkB _ i=_ from f];show CR w _ (.slice t) xs [_];rw[qP hb];exact CR.mono F.sub E
      |false =>
       rw[show lkB _ i=_ from f];obtain⟨base,cap,d,l,s⟩:=E;refine⟨base,cap,(qP hb).trans d,l,?_⟩;rcases s with s|⟨b,off,c,e',C,I,O,q7⟩
       ·exact .inl s
       ·refine .inr ⟨b,off,c,e',C,I,O,fun j x R=>?_⟩;obtain⟨us,q8,q9⟩:=q7 j x R;exact⟨us,CR.mono F.sub q8,q9⟩
     |map k u es =>
      rw[r] at f E;rw[show lkB _ i=_ from f];obtain⟨b,B,L,d,l,s,C⟩:=E;refine⟨b,B,L,(qP hb).trans d,l,s,fun j x R=>?_⟩;obtain⟨m,us,I,O,q7,q8⟩:=C j x R;exact⟨m,us,I,CR.mono F.sub O,CR.mono F.sub q7,q8⟩
     |acc t xs =>
      rw[r] at f E;rw[show lkB _ i=_ from f];obtain⟨us,d,l,s,C⟩:=E;refine⟨us,(qP hb).trans d,by rw[qP hb]; exact l,s,?_⟩;rw[qP hb];exact Ghost.st _ _ _ _ _ _ C ⟨rfl,rfl,rfl,cX _,fun b _ hn R=>hn (F.sub b R),fun b o ho _ _=>ho,fun b o ho _ _=>ho⟩
  ·have V:∀i,(lkB (HU T.heap (rest M N)).1 i).live=true->Ś (νb M.bd ν i) b->∃id,mu M.bd i=some (.at_ id)/\(lkB S.h id).live=true/\Ś (ν id) b:=fun i hi A=>by
    cases hb:mu M.bd i with
    |none=>rw[F.out i (by simp[hb]) (by simp[hb])] at hi; cases hi
    |some x =>
     cases x with
     |open_=>rw[F.out i (by simp[hb]) (by simp[hb])] at hi; cases hi
     |new=>simp only[νb,hb] at A; cases A
     |at_ id =>
      refine⟨id,rfl,?_,by simpa[νb,hb] using A⟩;have f:=F.at_ i id hb
      cases U:lkB S.h id with
      |dead=>rw[U] at f; rw[show lkB _ i=_ from f] at hi; cases hi
      |cells=>rfl
      |map=>rfl
      |acc=>rfl
      |row t g fz xs =>
       cases fz with
       |false=>rfl
       |true=>rw[U] at f; rw[show lkB _ i=_ from f] at hi; cases hi
   obtain⟨id,d,l,s⟩:=V i hi A;obtain⟨y,C,I,O⟩:=V j hj hbj;have:=H.heap.inj id y b l I s O;subst this;exact F.inj i j id d C
 have G:∀i,i<pin->mu M.bd i=some (.at_ i):=fun i hi=>(eL.trans Y).bd i i (aej hi c1);refine⟨νb M.bd ν,⟨H.defers,?_,fun i=>?_,hHR⟩,⟨rfl,rfl,rfl,cX _,fun b _ hb=>⟨rfl,fun hb'=>hb (F.subL b hb')⟩,fun i hi=>?_⟩,by rw[z]; exact c1,fun i hi K=>?_⟩
 ·have:=H.len;simp only[cZ,fL,KE];omega
 ·simp only[TV];exact Yh H.heap hL M Y F (fun k=>a.tmps.getD k undef) (fun k=>H.tmps k) i
 ·have hb:=G i hi;have f:=F.at_ i i hb
  cases r:lkB S.h i with
  |dead=>trivial
  |cells c=>rw[r] at f; exact⟨f,qP hb⟩
  |row t g fz xs =>
   rw[r] at f
   cases fz with
   |true=>exact⟨g,true,xs,f,cX _,fun _=>⟨qP hb,rfl⟩⟩
   |false =>
    have hg:=T6 c4 i hi t g xs r;exact⟨0,false,xs,f,by omega,fun _=>⟨qP hb,rfl⟩⟩
  |map k u es=>rw[r] at f; exact⟨⟨es,f⟩,qP hb⟩
  |acc t xs=>rw[r] at f; exact⟨xs,f⟩
 ·have f:=F.at_ i i (G i hi);rw[K] at f;exact f
end
end Go.Am
end

noncomputable section
namespace Go.Am
variable [Ghost]
section
variable {ρ:Type} {ν ν':Nat->Value} {h h':CK Blk} {w w':World} {P:Program}
def mj (w:World) (G:Nat->Prop) (t:Ty) (x:Val t) (v:Value):Prop:=∃us,CR w G t x us/\v=yO t us
def AT (w:World) (G:Nat->Prop):(l:CK Ty)->(t:Ty)->Val (tys t l)->CK Value->Prop
 |[],t,x,vs=>∃v,vs=[v]/\mj w G t x v
 |u::l,t,x,vs=>∃v b,vs=v::b/\mj w G t (x:Val t×Val (tys u l)).1 v/\AT w G l u (x:Val t×Val (tys u l)).2 b
def AL (w:World) (G:Nat->Prop):(l:CK Ty)->Val (tyL l)->CK Value->Prop
 |[],_,vs=>vs=[]
 |t::l,x,vs=>AT w G l t x vs
def RR (w:World) (G:Nat->Prop):(l:CK Ty)->Val (tyL l)->Value->Prop
 |[],_,u=>u=.tuple #[]
 |[t],x,u=>mj w G t x u
 |t::u'::l,x,u=>∃vs,u=.tuple vs/\AT w G (u'::l) t x vs.toList
def i5 (P:Program) (f:Nat) (p:þ):Prop :=
 ∀(G:Nat->Prop) (x:Val (tyL p.ts)) (y:Val (tyL p.rs)),p.F x=some y->∀(w:World) (vals:CK Value),(∀b,G b->b<w.heap.size)->AL w G p.ts x vals ->
  (∃fn c,P.funcs[f]?=some fn/\fn.body=some c) /\
  CallsIn Fence.wide 0 P f vals.toArray w fun e w'=>∃u,e=.returned u/\RR w' G p.rs y u/\(∀b,b<w.heap.size->w'.heap[b]?=w.heap[b]?)/\w.heap.size<=w'.heap.size/\w'.os=w.os/\w'.tape=w.tape/\w'.output=w.output
def Wq {a:AV} {vs:CK AV} (e:ş a=some vs):nc a=vs:=by
 cases a<;>simp only[ş,Option.some.injEq,reduceCtorEq] at e<;>exact e
def A8 {G:Nat->Prop} {t:Ty} {x:Val t} {a:AV} {v:Value} {vs:CK AV} (d:(T0 a==t.isAgg)=true) (i:ş a=some vs) (j:VR ν h w a v)
 (r:∀c∈nc a,∀u,VR1 ν h w c u->VRs w G (Ă h c) u) (e:Û t (vs.map (Ă h))=some x):mj w G t x v:=by
 have f:=j.cells i;have h2:Ē (VRs w G) (vs.map (Ă h)) v.cells.toList:=Ē.map_left (aux vs _ f fun c o u k=>r c (by rw[Wq i]; exact o) u k.1);refine⟨_,Ġ e h2,?_⟩
 cases ha:a.isAgg with
 |true =>
  cases a<;>try cases ha
  obtain⟨us,rfl,_⟩:=j
  have:t.isAgg=true:=by simpa[T0] using d
  simp[yO,this,Value.cells]
 |false =>
  have s:T0 a=false:=by cases a<;>first|rfl|cases ha
  have m:t.isAgg=false:=by rw[s] at d; simpa using d
  have l:a.isTup=false:=by cases a<;>first|rfl|cases i
  have y:=(j.one ha l).oneCell i;simp[yO,m,Qf y]
where
 aux {w:World} {G:Nat->Prop} {ν:Nat->Value} {h:CK Blk} (vs:CK AV) (us:CK Value) (f:Ē (VRc ν h w) vs us) (p:∀c∈vs,∀u,VRc ν h w c u->VRs w G (Ă h c) u):Ē (fun c b=>VRs w G (Ă h c) b) vs us:=by
  induction vs generalizing us with
  |nil=>cases us with
   |nil=>trivial
   |cons=>exact f.elim
  |cons c vs q=>cases us with
   |nil=>exact f.elim
   |cons u us=>exact⟨p c (by simp) u f.1,q us f.2 fun c o u k=>p c (by simp[o]) u k⟩
def WK (H:HR ν h w) {G:Nat->Prop} {t:Ty} {x:Val t} {a:AV} {v:Value} (l:VR ν h w a v)
 (A:∀c∈nc a,∀u,VR1 ν h w c u->VRs w G (Ă h c) u) (hb:∀id cs,a=.box id 0->lkB h id=.cells cs->(∀b,Ś (ν id) b->¬G b)/\∀c∈cs,∀u,VR1 ν h w c u->VRs w G (Ă h c) u) (e:alI h t a=some x):mj w G t x v:=by
 cases z:(match t with|.ptr _=>true|_=>false) with
 |false =>
  have f:(match T0 a==t.isAgg with|true=>(match ş (acd h a) with|some cs=>Û t cs|none=>none)|false=>none)=some x:=by
   cases t<;>first|exact e|cases z
  split at f<;>try (cases f; done)
  rename_i q
  split at f<;>try (cases f; done)
  rename_i cs d;obtain⟨vs,k,rfl⟩:=I5 d;exact A8 q k l A f
 |true =>
  cases t<;>try cases z
  rename_i u;simp only[alI] at e
  split at e<;>try (cases e; done)
  ·rename_i id
   split at e<;>try (cases e; done)
   rename_i cs B;obtain⟨K,b,k,h2,s⟩:=l.one rfl rfl;have C:=H.blk id;rw[B] at C;obtain⟨N,c,f,j,i,r⟩:=C;rw[h2] at j; cases j;obtain⟨J,d⟩:=hb id cs rfl B;have p:CR w G u x c.toList:=Ġ e (Ē.map_left (A8.aux cs _ r fun c I u E=>d c I u E.1));refine⟨[v],⟨b,0,c.toList,by rw[s],J b (by rw[h2]; rfl),ģ i,p,CellsAt.of_cells i⟩,rfl⟩
  ·rename_i L y
   split at e<;>try (cases e; done)
   rename_i m _;subst m;cases e;have k:=A _ (by simp[nc]) v (l.one rfl rfl);obtain⟨b,o,us,h2,s,j,i,r⟩:=k;exact⟨[v],⟨b,o,us,by rw[h2]; rfl,s,j,i,r⟩,rfl⟩
def Qz (H:HR ν h w) {G:Nat->Prop}:∀(l:CK Ty) (t:Ty) (x:Val (tys t l)) (as:CK AV) (vs:CK Value),Ē (VR ν h w) as vs ->
 (∀a∈as,∀c∈nc a,∀u,VR1 ν h w c u->VRs w G (Ă h c) u)->(∀a∈as,∀id cs,a=.box id 0->lkB h id=.cells cs->(∀b,Ś (ν id) b->¬G b)/\∀c∈cs,∀u,VR1 ν h w c u->VRs w G (Ă h c) u)->WJ h l t as=some x->AT w G l t x vs
 |[],t,x,[],vs,_,_,_,e=>by cases e
 |[],t,x,[a],vs,d,f,hb,e=>by
  obtain⟨v,rfl,k⟩:=d.one;exact⟨v,rfl,WK H k (f a (by simp)) (hb a (by simp)) e⟩
 |[],t,x,_::_::_,vs,_,_,_,e=>by cases e
 |u::l,t,x,[],vs,_,_,_,e=>by cases e
 |u::l,t,x,a::as,[],d,_,_,e=>d.elim
 |u::l,t,x,a::as,v::vs,d,f,hb,e=>by
  simp only[WJ] at e
  split at e<;>try (cases e; done)
  rename_i y j
  split at e<;>try (cases e; done)
  rename_i z i;cases e;exact⟨v,vs,rfl,WK H d.1 (f a (by simp)) (hb a (by simp)) j,Qz H l u z as vs d.2 (fun a ha=>f a (by simp[ha])) (fun a ha=>hb a (by simp[ha])) i⟩
def IM (H:HR ν h w) {G:Nat->Prop} {l:CK Ty} {x:Val (tyL l)} {as:CK AV} {vs:CK Value} (d:Ē (VR ν h w) as vs)
 (f:∀a∈as,∀c∈nc a,∀u,VR1 ν h w c u->VRs w G (Ă h c) u) (hb:∀a∈as,∀id cs,a=.box id 0->lkB h id=.cells cs->(∀b,Ś (ν id) b->¬G b)/\∀c∈cs,∀u,VR1 ν h w c u->VRs w G (Ă h c) u) (e:Fg h l as=some x):AL w G l x vs:=by
 cases l with
 |nil=>cases as with
  |nil=>exact d.nil_left
  |cons=>cases e
 |cons t l=>exact Qz H l t x as vs d f hb e
def mj.mono {G G':Nat->Prop} (d:∀b,G' b->G b) {t:Ty} {x:Val t} {v:Value} (c:mj w G t x v):mj w G' t x v:=by
 obtain⟨us,e,h2⟩:=c;exact⟨us,CR.mono d e,h2⟩
def JO {av f:Nat->Prop}:∀{t:Ty} {x:Val t} {us:CK Value},(flat t x).all CJ=true->CR w av t x us->CR w f t x us
 |.unit,_,_,_,d=>d
 |.bool,_,_,_,d=>d
 |.int _,_,_,_,d=>d
 |.str,_,_,_,d=>d
 |.slice _,_,_,c,_=>by simp[flat,CJ] at c
 |.map _ _,_,_,c,_=>by simp[flat,CJ] at c
 |.ptr _,_,_,c,_=>by simp[flat,CJ] at c
 |.pair a b,x,us,c,d=>by
  simp only[flat,List.all_append,cY] at c;obtain⟨u1,u2,e,i,h2⟩:=d;exact⟨u1,u2,e,JO c.1 i,JO c.2 h2⟩
def aik {t:Ty} {x:Val t} (b:plain (enc t x)=true):(flat t x).all CJ=true:=by
 cases t<;>first|exact b|(simp only[enc,plain,CJ] at b; simp[flat,CJ])|(simp[enc,plain,CJ] at b)
def mj.plain {G G':Nat->Prop} {t:Ty} {x:Val t} {v:Value} (c:plain (enc t x)=true) (b:mj w G t x v):mj w G' t x v:=by
 obtain⟨us,d,h2⟩:=b;exact⟨us,JO (aik c) d,h2⟩
def AT.plain {G G':Nat->Prop}:∀{l:CK Ty} {t:Ty} {x:Val (tys t l)} {vs:CK Value},(ail l t x).all Go.Am.plain=true->AT w G l t x vs->AT w G' l t x vs
 |[],t,x,vs,b,⟨v,c,h2⟩=>⟨v,c,h2.plain (by simpa[ail] using b)⟩
 |u::l,t,x,vs,b,⟨v,vs',c,h2,d⟩=>by
  simp only[ail,fC,cY] at b;exact⟨v,vs',c,h2.plain b.1,AT.plain b.2 d⟩
def Xy {v:AV} (b:v.isTup=false):M6 v=Go.Am.plain v:=by cases v<;>first|rfl|cases b
def JW {t:Ty} {x:Val t}:(enc t x).isTup=false:=by cases t<;>rfl
def RR.plain {G G':Nat->Prop}:∀{l:CK Ty} {x:Val (tyL l)} {u:Value},M6 (aao l x)=true->RR w G l x u->RR w G' l x u
 |[],_,_,_,h=>h
 |[t],x,u,b,h=>mj.plain ((Xy (JW (t:=t) (x:=x))).symm.trans b) h
 |t::u'::l,x,u,b,⟨vs,c,h2⟩=>⟨vs,c,h2.plain b⟩
def mj.VR {t:Ty} {x:Val t} {v:Value} (b:mj w (Av ν h) t x v):VR ν h w (enc t x) v:=by
 obtain⟨us,c,rfl⟩:=b;exact KM c
def AT.VR:∀{l:CK Ty} {t:Ty} {x:Val (tys t l)} {vs:CK Value},AT w (Av ν h) l t x vs->Ē (VR ν h w) (ail l t x) vs
 |[],t,x,_,⟨v,rfl,h2⟩=>⟨h2.VR,trivial⟩
 |u::l,t,x,_,⟨v,vs',rfl,h2,b⟩=>⟨h2.VR,AT.VR b⟩
def P5:∀{l:CK Ty} {t:Ty} {x:Val (tys t l)},∀a∈ail l t x,a.isTup=false
 |[],t,x,a,b=>by simp only[ail,di] at b; rw[b]; exact JW
 |u::l,t,x,a,b=>by
  simp only[ail,dg] at b;rcases b with rfl|b
  ·exact JW
  ·exact P5 a b
def Ē.VR2:∀{as:CK AV} {vs:CK Value},Ē (VR ν h w) as vs->(∀a∈as,a.isTup=false)->Ē (VR2 ν h w) as vs
 |[],[],_,_=>trivial
 |a::as,v::vs,b,c=>⟨by rw[<-yL (c a (by simp))]; exact b.1,Ē.VR2 b.2 fun a ha=>c a (by simp[ha])⟩
 |[],_::_,b,_=>b.elim
 |_::_,[],b,_=>b.elim
def RR.VR:∀{l:CK Ty} {x:Val (tyL l)} {u:Value},RR w (Av ν h) l x u->VR ν h w (aao l x) u
 |[],_,_,h=>by cases h; exact⟨#[],rfl,trivial⟩
 |[t],x,u,h=>mj.VR h
 |t::u'::l,x,u,⟨vs,b,h2⟩=>⟨vs,b,Ē.VR2 h2.VR P5⟩
def IX (P:Program) (g:Nat) (ν:Nat->Value) (h:CK Blk) (w:World) (vals:CK Value) (K:AV->CK Blk->BY ρ) (r:ρ):Prop :=
 (∃fn c,P.funcs[g]?=some fn/\fn.body=some c) /\
 CallsIn Fence.wide 0 P g vals.toArray w fun e w'=>∃ν' h' v u,e=.returned u/\VR ν' h' w' v u/\HR ν' h' w'/\Ev h.length ν h w ν' h' w'/\h.length<=h'.length/\(∀j,j<h.length->lkB h j=.dead->lkB h' j=.dead)/\K v h'=some r
def ads {c:AV} {u:Value}:∀{as:CK AV} {h:CK Blk},HR ν h w->c∈as->Nl c=true->VR1 ν h w c u->VRs w (Av ν (CA h as)) (Ă h c) u
 |[],_,_,b,_,_=>by cases b
 |a::as,h,H,b,e,d=>by
  obtain⟨i,f,j⟩:=PJ H a;rcases dg.1 b with rfl|b
  ·exact VRs.mono ((E8 as f).2.2) (PI H d e)
  ·have:=ads (as:=as) f b e (d.ev i)
   rwa [I6] at this
def aeu {f:Nat} {p:þ} (V:i5 P f p) {b:Bool} {d:CK AV} {K:AV->CK Blk->BY ρ} {r:ρ} (e:UJ b p h d K=some r) (H:HR ν h w) {vals:CK Value} (E:Ē (VR ν h w) d vals):IX P f ν h w vals K r:=by
 unfold UJ at e
 split at e<;>try (cases e; done)
 rename_i x C;simp only[Ã] at e
 split at e<;>try (cases e; done)
 rename_i y T
 -- the call, with what may not be touched
 have call:∀(G:Nat->Prop),(∀b,G b->b<w.heap.size)->AL w G p.ts x vals->∀(h':CK Blk),HR ν h' w->Ev h.length ν h w ν h' w->h.length<=h'.length->(∀j,j<h.length->lkB h j=.dead->lkB h' j=.dead) ->
  (∀w' u,RR w' G p.rs y u->RR w' (Av ν h') p.rs y u)->K (aao p.rs y) h'=some r->IX P f ν h w vals K r:=by
  intro G Z N h' B ev W q I Y;obtain⟨h1,h2⟩:=V G x y T w vals Z N;refine⟨h1,h2.mono fun e w' U=>?_⟩;obtain⟨u,rfl,g1,g2,g3,g4,g5,g6⟩:=U;obtain⟨O,R⟩:=B.grow g2 g3 g4 g5 g6 h.length;exact⟨ν,h',_,u,rfl,(I w' u g1).VR,R,ev.trans O (cX _),W,q,Y⟩
 split at e
 ·rename_i J;exact call (fun _=>False) (fun _ L=>L.elim) (IM H E (fun a _ c _ u m=>FA H m) (fun _ _ _ _ _ _=>⟨fun _ _ L=>L,fun c _ u m=>FA H m⟩) C) h H (Ev.refl _ _ _ _) (cX _) (fun _ _ hd=>hd) (fun w' u v=>v.plain J) e
 ·split at e
  ·rename_i z
   have i:∀a∈d,QB a=false:=fun a ha=>by have:=dG.1 z a ha; simpa using this
   refine call (Av ν h) (fun b hb=>H.ltA hb) (IM H E (fun a ha c k u m=>?_) (fun a ha id cs o _=>?_) C) h H (Ev.refl _ _ _ _) (cX _) (fun _ _ hd=>hd) (fun w' u v=>v) e
   ·have s:Fk c=false:=by
     have:=i a ha
     cases a<;>first
      |(simp only[nc,di] at k; subst k; exact this)
      |(simp only[nc] at k; simp only[QB,eh] at this; simpa using this c k)
    have:Ă h c=c:=by cases c<;>first|rfl|cases s
    rw[this]; exact m.data
   ·subst o; cases i _ ha
  ·split at e<;>try (cases e; done)
   rename_i A;simp only[gK,fm] at A;have l:∀a∈d,ag7 a=true:=dG.1 A.2;obtain⟨ev,B,S⟩:=E8 (d.flatMap nc) H;refine call (Av ν (CA h (d.flatMap nc))) (fun b hb=>B.ltA hb) (IM H E (fun a ha c k u m=>?_) (fun a ha id cs o _=>?_) C) _ B ev (by rw[π]; exact cX _) (fun _ _ hd=>PG _ hd) (fun w' u v=>v) e
   ·refine ads H (dB.2 ⟨a,ha,k⟩) ?_ m;have:=l a ha
    have s:ag6 c=true:=by
     cases a<;>first
      |(simp only[nc,di] at k; subst k; exact this)
      |(simp only[nc] at k; simp only[ag7,dG] at this; exact this c k)
    cases c<;>first|rfl|cases s
   ·subst o; cases l _ ha
end
end Go.Am
end

noncomputable section
namespace Go.Am
section
variable {w w':World} {X X':Nat->Prop}
structure alX (w:World) (X:Nat->Prop) (w':World) (X':Nat->Prop):Prop where
 size:w.heap.size<=w'.heap.size
 av:∀b,b<w.heap.size->¬X b->¬X' b
 dat:∀(b:Nat) (o:Obj),w.heap[b]?=some o->S7 o=true->¬X b->w'.heap[b]?=some o
def alk {w:World} {a:Addr} {v:Value} (h:w.cell? a=some v):∃o,w.heap[a.block]?=some o/\S7 o=true/\∀w':World,w'.heap[a.block]?=some o->w'.cell? a=some v:=by
 unfold World.cell? at h
 split at h<;>try (cases h; done)
 rename_i c e r hb;exact⟨_,hb,rfl,fun w' h'=>by unfold World.cell?; rw[h']; exact h⟩
def CellsAt.kx (K:alX w X w' X') {b off:Nat} {vs:CK Value} (hb:¬X b) (h:CellsAt w b off vs):CellsAt w' b off vs:=fun j v c=>by
 obtain⟨o,e,h2,d⟩:=alk (h j v c);exact d w' (K.dat b o e h2 hb)
def CR.kx (K:alX w X w' X'):∀{t:Ty} {x:Val t} {vs:CK Value},CR w X t x vs->CR w' X' t x vs
 |.unit,_,_,h=>h
 |.bool,_,_,h=>h
 |.int _,_,_,h=>h
 |.str,_,_,h=>h
 |.slice t,xs,vs,h=>by
  obtain⟨base,cap,e,s,h⟩:=h;refine⟨base,cap,e,s,?_⟩;rcases h with h|⟨b,off,hb,c,d,h⟩
  ·exact .inl h
  ·refine .inr ⟨b,off,hb,K.av b d c,dw d K.size,fun i x j=>?_⟩;obtain⟨us,f,h2⟩:=h i x j;exact⟨us,CR.kx K f,h2.kx K c⟩
 |.map k v,es,vs,h=>by
  obtain⟨r,e,h⟩:=h;refine⟨r,e,?_⟩;rcases h with h|⟨b,entries,clock,q,c,l,p,h⟩
  ·exact .inl h
  ·refine .inr ⟨b,entries,clock,q,K.av b (ģ l) c,K.dat b _ l rfl c,p,fun i x j=>?_⟩;obtain⟨m,us,f,h2,y,u⟩:=h i x j;exact⟨m,us,f,CR.kx K h2,CR.kx K y,u⟩
 |.ptr t,x,vs,h=>by
  obtain⟨b,off,us,e,c,d,f,h2⟩:=h;exact⟨b,off,us,e,K.av b d c,dw d K.size,CR.kx K f,h2.kx K c⟩
 |.pair a b,x,vs,h=>by
  obtain⟨us,o,e,f,h2⟩:=h;exact⟨us,o,e,CR.kx K f,CR.kx K h2⟩
end
section
variable {g:Ghost} {G':Nat->Prop} {D:CK Deferred} {Q:BY Nat} {M:Nat} {ν:Nat->Value} {h:CK Blk} {w w':World}
structure nr (g:Ghost) (ν:Nat->Value) (h:CK Blk) (w:World) (G':Nat->Prop) (w':World):Prop where
 os:w'.os=w.os
 tape:w'.tape=w.tape
 output:w'.output=w.output
 size:w.heap.size<=w'.heap.size
 av:∀b,b<w.heap.size->¬@Av g ν h b->¬G' b
 dat:∀(b:Nat) (o:Obj),w.heap[b]?=some o->S7 o=true->(@Av g ν h b->Fp ν h b)->w'.heap[b]?=some o
 nd:∀(b:Nat) (o:Obj),w.heap[b]?=some o->S7 o=false->b<g.B->w'.heap[b]?=some o
def nr.kx (K:nr g ν h w G' w'):alX w (@Av g ν h) w' (@Av (g.re G' D Q M) ν h) :=
 ⟨K.size,fun b hb c d=>d.elim (fun f=>c (.inl f)) (K.av b hb c),fun b o hb e c=>K.dat b o hb e fun d=>absurd d c⟩
def VR0.step (K:nr g ν h w G' w') {a:AV} {v:Value} (c:@VR0 g ν h w a v):@VR0 (g.re G' D Q M) ν h w' a v:=by
 cases a with
 |slc t xs=>exact CR.kx (nr.kx (D:=D) (Q:=Q) (M:=M) K) (t:=.slice t) c
 |mp k t es=>exact CR.kx (nr.kx (D:=D) (Q:=Q) (M:=M) K) (t:=.map k t) c
 |eptr t x off =>
  obtain⟨b,o,us,j,h2,e,i,f⟩:=c;have d:=nr.kx (D:=D) (Q:=Q) (M:=M) K;exact⟨b,o,us,j,d.av b e h2,dw e K.size,CR.kx d i,f.kx d h2⟩
 |_=>exact c
def VR1.step (K:nr g ν h w G' w') {a:AV} {v:Value} (b:@VR1 g ν h w a v):@VR1 (g.re G' D Q M) ν h w' a v:=by
 cases c:a.isFn with
 |true =>
  cases a<;>try cases c
  obtain⟨fs,cs,e,h2,d⟩:=b;exact⟨fs,cs,e,h2.mono fun _ _=>VR0.step K,d.mono fun _ _=>VR0.step K⟩
 |false =>
  rw[@yB (g.re G' D Q M) _ _ _ _ _ c];rw[@yB g _ _ _ _ _ c] at b;exact VR0.step K b
def VRc.step (K:nr g ν h w G' w') {a:AV} {v:Value} (b:@VRc g ν h w a v):@VRc (g.re G' D Q M) ν h w' a v:=⟨VR1.step K b.1,b.2⟩
def VR2.step (K:nr g ν h w G' w') {a:AV} {v:Value} (b:@VR2 g ν h w a v):@VR2 (g.re G' D Q M) ν h w' a v:=by
 cases c:a.isAgg with
 |true =>
  cases a<;>try cases c
  obtain⟨vs,d,h2⟩:=b;exact⟨vs,d,h2.mono fun _ _=>VRc.step K⟩
 |false =>
  rw[@Bb (g.re G' D Q M) _ _ _ _ _ c];rw[@Bb g _ _ _ _ _ c] at b;exact VR1.step K b
def VR.step (K:nr g ν h w G' w') {a:AV} {v:Value} (b:@VR g ν h w a v):@VR (g.re G' D Q M) ν h w' a v:=by
 cases c:a.isTup with
 |true =>
  cases a<;>try cases c
  obtain⟨vs,d,h2⟩:=b;exact⟨vs,d,h2.mono fun _ _=>VR2.step K⟩
 |false =>
  rw[@yL (g.re G' D Q M) _ _ _ _ _ c];rw[@yL g _ _ _ _ _ c] at b;exact VR2.step K b
def HR.step (K:nr g ν h w G' w') (G:∀b,G' b->b<w'.heap.size) (E:∀b,Fp ν h b->¬G' b) (H:@HR g ν h w):@HR (g.re G' D Q M) ν h w':=by
 have B:alX w (@Av g ν h) w' (@Av (g.re G' D Q M) ν h):=nr.kx K;have live:∀(id b:Nat) (o:Obj),(lkB h id).live=true->Ś (ν id) b->w.heap[b]?=some o->S7 o=true->w'.heap[b]?=some o:=fun id b o l C hb hd=>K.dat b o hb hd fun _=>⟨id,l,C⟩;refine @HR.mk (g.re G' D Q M) ν h w' (fun id=>?_) (@HR.inj g _ _ _ H) G (fun id b l hb=>E b ⟨id,l,hb⟩);have p:=@HR.blk g _ _ _ H id;have d:=live id
 cases l:lkB h id with
 |dead=>trivial
 |cells cs =>
  rw[l] at p d;obtain⟨b,c,e,j,h2,q⟩:=p;exact⟨b,c,e,j,d b _ rfl (by rw[j]; rfl) h2 rfl,q.mono fun _ _=>VRc.step K⟩
 |row t g' fz xs =>
  rw[l] at p d
  cases fz with
  |true=>exact CR.kx B (t:=.slice t) p
  |false =>
   obtain⟨base,cap,j,h2,q⟩:=p;refine⟨base,cap,j,h2,?_⟩;rcases q with q|⟨b,off,c,e,u,I,R,O⟩
   ·exact .inl q
   ·have A:=d b _ rfl (by rw[j,u]; rfl) I rfl;refine .inr ⟨b,off,c,e,u,A,R,fun i x z=>?_⟩;obtain⟨us,y,s⟩:=O i x z;exact⟨us,CR.kx B y,s.keep (A.trans I.symm)⟩
 |map k v es =>
  rw[l] at p d;obtain⟨b,f,r,j,h2,q,u⟩:=p;refine⟨b,f,r,j,d b _ rfl (by rw[j]; rfl) h2 rfl,q,fun i x z=>?_⟩;obtain⟨m,us,y,s,L,J⟩:=u i x z;exact⟨m,us,y,CR.kx B s,CR.kx B L,J⟩
 |acc t xs =>
  rw[l] at p d;obtain⟨us,j,h2,q,u⟩:=p;refine⟨us,j,fun b hb=>?_,q,?_⟩
  ·obtain⟨o,y,s⟩:=h2 b hb;exact⟨o,d b o rfl hb y s,s⟩
  ·refine g.st _ _ _ _ _ _ u ⟨K.os,K.tape,K.output,K.size,B.av,fun b o hb C z=>K.dat b o hb C fun N=>⟨id,by rw[l]; rfl,z N⟩,K.nd⟩
def HR.re (H:@HR g ν h w):@HR (g.re g.G D Q M) ν h w:=@HR.mk (g.re g.G D Q M) ν h w (@HR.blk g ν h w H) (@HR.inj g ν h w H) (@HR.ghlt g ν h w H) (@HR.ghne g ν h w H)
def HR.er (H:@HR (g.re g.G D Q M) ν h w):@HR g ν h w:=@HR.mk g ν h w (@HR.blk (g.re g.G D Q M) ν h w H) (@HR.inj (g.re g.G D Q M) ν h w H) (@HR.ghlt (g.re g.G D Q M) ν h w H) (@HR.ghne (g.re g.G D Q M) ν h w H)
def nr.less {G':Nat->Prop} (e:∀b,G' b->g.G b):nr g ν h w G' w:=⟨rfl,rfl,rfl,cX _,fun b _ c d=>c (.inr (e b d)),fun b o hb _ _=>hb,fun b o hb _ _=>hb⟩
def nr.nds (c:w'.os=w.os) (f:w'.tape=w.tape) (j:w'.output=w.output) (i:w.heap.size<=w'.heap.size) (e:∀(b:Nat) (o:Obj),w.heap[b]?=some o->S7 o=true\/b<g.B->w'.heap[b]?=some o):nr g ν h w g.G w' :=
 ⟨c,f,j,i,fun b _ k l=>k (.inr l),fun b o hb hd _=>e b o hb (.inl hd),fun b o hb _ d=>e b o hb (.inr d)⟩
end
end Go.Am
end

noncomputable section
namespace Go.Am
variable [Ghost]
section
variable {ρ:Type} {ν ν':Nat->Value} {h h':CK Blk} {w w':World} {P:Program}
def S9 {v b:AV} (e:aky v=some b):b=v/\v.isTup=false:=by
 cases v<;>simp only[aky,Option.some.injEq,reduceCtorEq] at e<;>exact⟨e.symm,rfl⟩
def aer {S:St} {a:Act} (H:Sim ν S a w) {rv:ResultVar} {v:AV} (e:aaC P S.h S.t rv=some v) :
 ∃u,(match rv with|.tmp t=>(pure (a.tmps.getD t undef):Sem Value)|.cell x t=>do loadVar t (<-asAddr (a.tmps.getD x undef))).run P w=.ok u w/\VR2 ν S.h w v u:=by
 cases rv with
 |tmp i =>
  obtain⟨rfl,d⟩:=S9 e;have:=H.tmps i;rw[yL d] at this;exact⟨_,rfl,this⟩
 |cell x t =>
  simp only[aaC] at e
  split at e<;>try (cases e; done)
  rename_i j f;obtain⟨rfl,d⟩:=S9 e;obtain⟨u,b,h2⟩:=ahM H.heap f (H.tmps x);rw[yL d] at h2;refine⟨u,?_,h2⟩;simp only[Instr.loadAt] at b
  cases c:a.tmps.getD x undef with
  |pointer p =>
   rw[c] at b
   cases p with
   |none=>simp[Instr.sureAddr] at b
   |some k =>
    show(do loadVar t (<-asAddr (a.tmps.getD x undef)):Sem Value).run P w=_;rw[c];simpa[Instr.sureAddr,asAddr] using b
  |_=>rw[c] at b; simp[Instr.sureAddr] at b
def Sz {S:St} {a:Act} (H:Sim ν S a w):∀{rs:CK ResultVar} {vs:CK AV},MW P S.h S.t rs=some vs ->
 ∃us:CK Value,(rs.mapM (m:=Sem) fun|.tmp t=>pure (a.tmps.getD t undef)|.cell x t=>do loadVar t (<-asAddr (a.tmps.getD x undef))).run P w=.ok us w/\Ē (VR2 ν S.h w) vs us
 |[],vs,e=>by cases e; exact⟨[],rfl,trivial⟩
 |rv::rs,vs,e=>by
  simp only[MW] at e
  split at e<;>try (cases e; done)
  rename_i v d
  split at e<;>try (cases e; done)
  rename_i c b;cases e;obtain⟨u,j,h2⟩:=aer H d;obtain⟨us,i,f⟩:=Sz H b;refine⟨u::us,?_,h2,f⟩;simp only[List.mapM_cons,Sem.run_bind,Sem.run_pure];rw[j];simp only[Result.andThen_ok];rw[i];rfl
def VR2.up {v:AV} {u:Value} (b:VR2 ν h w v u):VR ν h w v u:=by
 cases c:v.isTup with
 |true =>
  cases v<;>try cases c
  exact b.elim
 |false=>rw[yL c]; exact b
def Sy {S:St} {a:Act} {fn:Func} {v:AV} (H:Sim ν S a w) (e:uX P fn S=some v):∃u,(results fn a.tmps).run P w=.ok u w/\VR ν S.h w v u:=by
 unfold uX at e
 cases c:MW P S.h S.t fn.results.toList with
 |none=>rw[c] at e; cases e
 |some vs =>
  obtain⟨us,d,h2⟩:=Sz H c
  have b:(results fn a.tmps).run P w=.ok (if h:us.toArray.size=1 then us.toArray[0] else .tuple us.toArray) w:=by
   unfold results;rw[Sem.run_bind,Array.mapM_eq_mapM_toList,Sem.run_map]
   erw [d]
   rfl
  rw[c] at e
  rcases vs with _|⟨x,_|⟨y,l⟩⟩<;>rcases us with _|⟨u,_|⟨u',m⟩⟩
  ·cases e; exact⟨_,b,⟨#[],by simp,trivial⟩⟩
  ·exact h2.elim
  ·exact h2.elim
  ·exact h2.elim
  ·cases e; exact⟨_,b,h2.1.up⟩
  ·exact h2.2.elim
  ·exact h2.elim
  ·exact h2.2.elim
  ·cases e; exact⟨_,b,⟨(u::u'::m).toArray,by simp,h2⟩⟩
def Ē.lk {R:AV->Value->Prop} (b:∀u,R .any u):∀{l:CK AV} {m:CK Value} (i:Nat),Ē R l m->R (Am.lk l i) (m.getD i undef)
 |[],[],i,_=>b _
 |_::_,_::_,0,h=>h.1
 |_::_,_::_,i+1,h=>by simpa[Am.lk] using Ē.lk b i h.2
 |[],_::_,_,h=>h.elim
 |_::_,[],_,h=>h.elim
def adB (h:Ghost.Q=none):fen=Fence.wide:=by
 unfold fen;rw[h];rfl
omit [Ghost] in
def uq {F:Fence} {n:Nat} {fn:Func} {tmps:Array Value} {R:Ending->World->Prop}:∀(ms:CK Nat) (w:World),ms.Nodup->(∀k∈ms,w.heap[k]?=some (.deferred (some []))) ->
 (∀w':World,w'.heap.size=w.heap.size->w'.os=w.os->w'.tape=w.tape->w'.output=w.output->(∀b,b∉ms->w'.heap[b]?=w.heap[b]?)->LeavesIn F n P fn tmps R [] .returning w')->LeavesInM F n P fn tmps R (ms.map mk1) .returning w
 |[],w,_,_,h=>h w rfl rfl rfl rfl fun _ _=>rfl
 |k::ms,w,p,c,h=>by
  refine⟨by simp,.inl ⟨k,_,rfl,run_takeDeferred (c k (.head _)),?_⟩⟩;obtain⟨r,h2⟩:=fB.1 p;refine uq ms _ h2 (fun j d=>?_) fun w' o m l i f=>h w' (by rw[o]; simp[World.putObj]) m l i fun b hb=>?_
  ·rw[World.putObj_heap_other (fun e=>r (by rw[<-e]; exact d))];exact c j (.tail _ d)
  ·rw[f b fun q=>hb (.tail _ q)];exact World.putObj_heap_other fun e=>hb (by rw[e]; exact .head _)
omit [Ghost] in
def ye {g:Ghost} {E:Env ρ} {call:CK Nat->Bool->Nat->CK AV->CK Blk->(AV->CK Blk->BY ρ)->BY ρ} {N:Nat} (hE:∀M,@nt (g.re g.G [] none M) ρ E N call) (hD:∀M,@wK (g.re g.G [] none M) ρ E N call) {path:CK Nat} (s:path.length+2=N) {f:Nat} {d:CK AV} {K:AV->CK Blk->BY ρ} {r:ρ}
 (hL:∀M fn c,E.P.funcs[f]?=some fn->fn.body=some c->∀x∈â 0 c,@uD (g.re g.G [] none M) ρ E path f x.1 x.2)
 (e:wC E call path f d h K=some r) {vals:CK Value} (H:@HR g ν h w) (hB:g.B<=w.heap.size) (p:Ē (@VR g ν h w) d vals) :
 (∃fn c,E.P.funcs[f]?=some fn/\fn.body=some c) /\
 CallsIn Fence.wide 0 E.P f vals.toArray w fun e w'=>∃ν' h' v u,e=.returned u/\@VR g ν' h' w' v u/\@HR g ν' h' w'/\Ev h.length ν h w ν' h' w'/\h.length<=h'.length/\(∀j,j<h.length->lkB h j=.dead->lkB h' j=.dead)/\K v h'=some r:=by
 unfold wC at e
 split at e<;>try (cases e; done)
 rename_i fn y
 split at e<;>try (cases e; done)
 rename_i c Z;refine⟨⟨fn,c,y,Z⟩,?_⟩
 letI g':Ghost:=g.re g.G [] none w.heap.size
 refine callsIn_of_wp_marks y Z trivial ?_;have C:=p.length
 have hS:Sim ν {t:=d++List.replicate (fn.ntmps-d.length) .any,h:=h} {tmps:=vals.toArray++Array.replicate (fn.ntmps-vals.toArray.size) undef,defers:=[]} w:=by
  refine⟨⟨⟨[],rfl,gI,fun _ h=>(by cases h)⟩,fun l I=>(by cases I),hB,cX _⟩,by simp[C],fun i=>?_,HR.re H⟩;simp only[TV];rcases dk i d.length with hi|hi
  ·have:=Ē.lk (R:=@VR g ν h w) (fun _=>trivial) i p
   have U:i<vals.length:=by omega
   have h2:(vals.toArray++Array.replicate (fn.ntmps-vals.toArray.size) undef).getD i undef=vals.getD i undef:=by
    simp[eF,f7,U]
   rw[h2]; exact this
  ·rw[akE _ _ hi]; trivial
 have J:=wn (hE _) (hD _) s c 0 _ _ ν _ w (hL _ fn c y Z) e hS (cX _);rw[adB rfl] at J;refine wpIn_mono J fun x O w' ha=>?_;obtain⟨ν',L,A,h2,h3,h4,m⟩:=ha
 have fin:∀v,uX E.P fn L=some v->K v L.h=some r->LeavesInM Fence.wide 0 E.P fn O.tmps (fun e w'=>∃ν' h' v u,e=.returned u/\@VR g ν' h' w' v u/\@HR g ν' h' w'/\Ev h.length ν h w ν' h' w'/\h.length<=h'.length/\(∀j,j<h.length->lkB h j=.dead->lkB h' j=.dead)/\K v h'=some r) O.defers .returning w':=by
  intro v U Y;obtain⟨⟨ms,m1,m2,T⟩,_,m4,m5⟩:=A.defers;rw[show O.defers=ms.map mk1 from m1.trans (dv _)];refine uq ms w' m2 (fun k Y=>(T k Y).1) fun w2 q1 q2 q3 q4 q5=>?_
  have W:∀(b:Nat) (o:Obj),w'.heap[b]?=some o->S7 o=true\/b<g'.B->w2.heap[b]?=some o:=fun b o hb hd=>by
   have z:b∉ms:=fun V=>by
    obtain⟨m6,S⟩:=T b V;rw[m6] at hb; cases hb;rcases hd with hd|hd
    ·cases hd
    ·have:g'.B<=w.heap.size:=hB;have S:w.heap.size<=b:=S;omega
   rw[q5 b z]; exact hb
  have KG:nr g' ν' L.h w' g'.G w2:=nr.nds q2 q3 q4 (by omega) W;have q:Sim ν' L {O with defers:=[]} w2:=⟨⟨⟨[],rfl,gI,fun _ h=>(by cases h)⟩,fun l I=>(by cases I),hB,by rw[q1]; exact m5⟩,A.len,fun i=>VR.step (g:=g') (D:=[]) (Q:=none) (M:=w.heap.size) KG (A.tmps i),HR.step (g:=g') (D:=[]) (Q:=none) (M:=w.heap.size) KG (fun b hb=>by have:=A.heap.ghlt b hb; omega) (fun b ⟨id,I,ho⟩=>A.heap.ghne id b I ho) A.heap⟩;obtain⟨u,r1,r2⟩:=Sy q U;refine⟨u,r1,ν',L.h,v,u,rfl,r2,HR.er q.heap,⟨q2.trans h2.os,q3.trans h2.tape,q4.trans h2.output,by rw[q1]; exact h2.size,fun b hb hn=>?_,h2.blk⟩,h3,h4,Y⟩;obtain⟨e1,e2⟩:=h2.keep b hb hn;refine⟨?_,e2⟩
  have z:b∉ms:=fun V=>by
   have S:w.heap.size<=b:=(T b V).2;omega
  rw[q5 b z]; exact e1
 cases x with
 |normal =>
  simp only at m
  split at m<;>try (cases m; done)
  exact fin _ ‹_› m
 |ret =>
  simp only at m
  split at m<;>try (cases m; done)
  exact fin _ ‹_› m
 |exit id=>cases m
 |goto l=>cases m
 |panic ch=>cases m
 |outgrown=>cases m
def afT (P:Program) (f:Nat) (X:CK Blk->CK AV->(AV->CK Blk->BY ρ)->BY ρ):Prop :=
 ∀(h:CK Blk) (b:CK AV) (K:AV->CK Blk->BY ρ) (r:ρ),X h b K=some r->∀ν w vals,HR ν h w->Ē (VR ν h w) b vals->IX P f ν h w vals K r
structure IV (E:Env ρ):Prop where
 pure:∀f p,E.pure f=some p->i5 E.P f p
 sort:∀f,E.sort f=true->∀(h:CK Blk) (x:AV) (K:AV->CK Blk->BY ρ) (r:ρ),Uz h x K=some r->∀ν w u,HR ν h w->VR ν h w x u->IX E.P f ν h w [u] K r
 compact:∀f,E.compact f=true->∀(h:CK Blk) (x:AV) (K:AV->CK Blk->BY ρ) (r:ρ),qv h x K=some r->∀ν w u,HR ν h w->VR ν h w x u->IX E.P f ν h w [u] K r
 plain : ∀ (f : Nat) (fn : Func), E.P.funcs[f]? = some fn -> (fn.name == "runtime.NumGoroutine") = false
 clone:J9 E.P E.clone
 joins:aaf E
 yld:lF E
 ext:∀f X,E.ext f=some X->afT E.P f X
omit [Ghost] in
def aiP {E:Env ρ} (n:Nat):(∀f p,E.pure f=some p->∀path c b h K,ŧ E (n+1) path c f b h K=UJ (c&&!E.fz f) p h b K) /\
 (∀f,E.pure f=none->E.sort f=true->∀path c b h K,ŧ E (n+1) path c f b h K=match b with|[x]=>Uz h x K|_=>none) /\
 (∀f,E.pure f=none->E.sort f=false->E.compact f=true->∀path c b h K,ŧ E (n+1) path c f b h K=match b with|[x]=>qv h x K|_=>none) :=
 ⟨fun f p d path c b h K=>by simp only[ŧ,d],fun f d e path c b h K=>by simp only[ŧ,d,e]; rfl,fun f d e i path c b h K=>by simp only[ŧ,d,e,i]; rfl⟩
omit [Ghost] in
def sj {E:Env ρ} (i:∀[Ghost],lF E->IV E) (hdraw:∀[Ghost] L call,nt E L call->wK E L call)
 (hloops:∀n,n<=10->(∀[Ghost],lF E->nt E (22-2*n) (ŧ E n))->∀[Ghost],lF E->∀(path:CK Nat) (f:Nat) (fn:Func) (c:Code),path.length+2=22-2*n->E.P.funcs[f]?=some fn->fn.body=some c->∀x∈â 0 c,uD E path f x.1 x.2) :
 ∀n,n<=10->∀[Ghost],lF E->nt E (22-2*n) (ŧ E n):=by
 intro n
 induction n with
 |zero=>exact fun _ _ l=>⟨.inl fun _ _ _ _ _ _=>rfl,fun path q g m h K r _ e=>(by cases e),(i l).plain,(i l).clone,(i l).joins,l⟩
 |succ n v =>
  intro O k l;have hE:∀[Ghost],lF E->nt E (22-2*n) (ŧ E n):=v (by omega);have b:=i l;refine⟨.inr (aiP n),fun path q g m h K r N e ν w vals H C d=>?_,b.plain,b.clone,b.joins,l⟩;simp only[ŧ] at e
  split at e
  ·rename_i J z;exact aeu (b.pure g J z) e H d
  ·split at e
   ·rename_i y
    split at e<;>try (cases e; done)
    rename_i x;obtain⟨u,rfl,s⟩:=d.one;exact b.sort g y h x K r e ν w u H s
   ·split at e
    ·rename_i A
     split at e<;>try (cases e; done)
     rename_i x;obtain⟨u,rfl,s⟩:=d.one;exact b.compact g A h x K r e ν w u H s
    ·split at e
     ·rename_i X B;exact b.ext g X B h m K r e ν w vals H d
     split at e<;>try (cases e; done)
     split at e<;>try (cases e; done)
     have j:path.length+2=22-2*n:=by omega
     have o:∀M,@lF (k.re k.G [] none M) ρ E:=fun _=>l;have p:∀M,@nt (k.re k.G [] none M) ρ E (22-2*n) (ŧ E n):=fun M=>@hE (k.re k.G [] none M) (o M);exact ye p (fun M=>@hdraw (k.re k.G [] none M) _ _ (p M)) j (fun M fn c I h2=>@hloops n (by omega) hE (k.re k.G [] none M) (o M) path g fn c j I h2) e H C d
end
end Go.Am
end

noncomputable section
namespace Go.Am
variable [Ghost]
section
variable {ρ:Type} {P:Program} {h h2:CK Blk} {t t2:CK AV}
def pu (h h2:CK Blk) (v:AV):Prop:=∀id∈refs2 h v,lkB h2 id=lkB h id
def pu.one {v:AV} (b:pu h h2 v):∀id∈refs1 v,lkB h2 id=lkB h id:=fun id hi=>b id (by simp only[refs2,df]; exact .inl hi)
def pu.refs {v:AV} (d:pu h h2 v):refs2 h2 v=refs2 h v:=by
 simp only[refs2]
 have:∀(l:CK Nat),(∀id∈l,lkB h2 id=lkB h id)->(l.flatMap fun id=>(Qg (lkB h2 id)).flatMap ŏ)=l.flatMap fun id=>(Qg (lkB h id)).flatMap ŏ:=by
  intro l
  induction l with
  |nil=>intro _; rfl
  |cons x l c=>intro b; simp only[dA]; rw[b x (by simp),c fun id hi=>b id (by simp[hi])]
 rw[this _ d.one]
def qC {v:AV} (b:∀id∈ŏ v,lkB h2 id=lkB h id):Ă h2 v=Ă h v:=by
 cases v<;>first
  |rfl
  |(simp only[Ă]; rw[b _ (by simp[ŏ])])
def MQ {v:AV} (d:∀id∈refs1 v,lkB h2 id=lkB h id):acd h2 v=acd h v:=by
 have one:(∀id∈ŏ v,lkB h2 id=lkB h id)->Ă h2 v=Ă h v:=qC
 cases v with
 |agg cs =>
  simp only[acd,AV.agg.injEq];exact fj fun c e=>qC fun id hi=>d id (dB.2 ⟨c,e,hi⟩)
 |fn f a b=>exact one fun _ hi=>by cases hi
 |_=>exact one d
def aeX {ty:TypeId} {a:AV} (b:∀id∈refs1 a,lkB h2 id=lkB h id) (K:AV->BY ρ):RZ P h2 ty a K=RZ P h ty a K:=by
 cases a<;>first
  |rfl
  |(simp only[RZ]; rw[b _ (by simp[refs1,ŏ])])
def aay {o:Nat} {a:AV} (b:∀id∈refs1 a,lkB h2 id=lkB h id) (K:AV->BY ρ):CG h2 a o K=CG h a o K:=by
 cases a<;>first
  |rfl
  |(simp only[CG]; rw[b _ (by simp[refs1,ŏ])])
def abd {sz:Nat} {a i:AV} (b:∀id∈refs1 a,lkB h2 id=lkB h id) (K:AV->BY ρ):HX sz h2 a i K=HX sz h a i K:=by
 cases i<;>try rfl
 cases a<;>first
  |rfl
  |(simp only[HX]; rw[b _ (by simp[refs1,ŏ])])
def ahT {d:BY TypeDesc} {a:AV} (b:∀id∈refs1 a,lkB h2 id=lkB h id) (K:AV->BY ρ):akH d h2 a K=akH d h a K:=by
 unfold akH
 split<;>cases a<;>first
  |rfl
  |(simp only[]; rw[b _ (by simp[refs1,ŏ])])
def Zp {ty:TypeId} {m i:AV} {ok:Bool} (b:∀id∈refs1 m,lkB h2 id=lkB h id) (K:AV->BY ρ):uL P h2 ty m i ok K=uL P h ty m i ok K:=by
 unfold uL
 have:Ă h2 m=Ă h m:=qC fun id hi=>b id (by cases m<;>first|exact hi|simp[ŏ] at hi)
 rw[this]
def Ke {σ:Type} {sz:Nat} {a:AV} {lo hi:BY AV} (K:AV->CK Blk->BY σ):sL sz h a lo hi false K=(sL sz h a lo hi false fun v _=>some v).bind fun v=>K v h:=by
 unfold sL;dsimp only
 (repeat' split)<;>rfl
def aav {sz:Nat} {a:AV} {lo hi:BY AV} (b:∀id∈refs1 a,lkB h2 id=lkB h id):∃φ:BY AV,(∀{σ:Type} (K:AV->CK Blk->BY σ),sL sz h a lo hi false K=φ.bind fun v=>K v h)/\∀{σ:Type} (K:AV->CK Blk->BY σ),sL sz h2 a lo hi false K=φ.bind fun v=>K v h2:=by
 refine⟨sL sz h a lo hi false fun v _=>some v,fun K=>?_,fun K=>?_⟩
 ·exact Ke K
 ·rw[Ke K];congr 1
  cases a<;>first
   |rfl
   |(simp only[sL]; rw[b _ (by simp[refs1,ŏ])])
def ap (nid:Nat) (b:BY Blk) (h:CK Blk):CK Blk:=match b with|none=>h|some B=>č h nid B
def pbind {α σ σ2:Type} {R:BY σ->BY σ2->Prop} (h0:R none none) {x:BY α} {K:α->BY σ} {K2:α->BY σ2} (h:∀a,R (K a) (K2 a)):R (x.bind K) (x.bind K2):=by
 cases x with
 |none=>exact h0
 |some a=>exact h a
def pb2 {α σ σ2:Type} {R:BY σ->BY σ2->Prop} (h0:R none none) {x:BY α} {K:α->BY σ} {K2:α->BY σ2} {z:BY σ} {b:BY σ2} (c:z=x.bind K) (h2:b=x.bind K2) (h:∀a,R (K a) (K2 a)):R z b:=by
 subst c h2; exact pbind h0 h
def Nv {l:CK Operand} (b:∀x∈l,ev t2 x=ev t x):l.map (ev t2)=l.map (ev t):=fj b
def ahh {l:CK (Nat×Operand)} (b:∀x∈l.map (·.2),ev t2 x=ev t x):(l.map fun p=>(p.1,ev t2 p.2))=l.map fun p=>(p.1,ev t p.2):=fj fun p c=>by rw[b p.2 (dz.2 ⟨p,c,rfl⟩)]
def Sx {ty:Ty}:∀{ps:CK (Nat×AV)} {n:Nat},(∀p∈ps,∀id∈refs1 p.2,lkB h2 id=lkB h id)->QL h2 ty n ps=QL h ty n ps
 |[],_,_=>rfl
 |(i,v)::ps,n,b=>by
  simp only[QL];rw[MQ (b (i,v) (by simp)),Sx fun q c=>b q (by simp[c])]
def al7 {σ σ2:Type} {R:BY σ->BY σ2->Prop} {E:Env ρ} {o:Op} {nid:Nat} {K:AV->St->BY σ} {K2:AV->St->BY σ2} (h0:R none none) (z:cls E o<=1) (G:TZ o=false)
 (d:∀x∈o.operands.toList,ev t2 x=ev t x) (C:cls E o=1->∀x∈o.operands.toList,∀id∈refs1 (ev t x),lkB h2 id=lkB h id)
 (J:∀v I,(I.isSome=true->Ĕ E.clone o=true)->R (K v {t:=t,h:=ap nid I h}) (K2 v {t:=t2,h:=ap nid I h2})) :
 R (opK P {t:=t,h:=h} nid false o K) (opK P {t:=t2,h:=h2} nid false o K2):=by
 have k:∀v,R (K v {t:=t,h:=h}) (K2 v {t:=t2,h:=h2}):=fun v=>J v none (by simp);have ha:Ĕ E.clone o=true->∀v B,R (K v {t:=t,h:=č h nid B}) (K2 v {t:=t2,h:=č h2 nid B}):=fun al v B=>J v (some B) fun _=>al
 cases o with
 |move x =>
  have e:=d x (by simp[Op.operands]);simp only[opK,e]; exact k _
 |assign x =>
  have e:=d x (by simp[Op.operands]);simp only[opK,e]; exact k _
 |pick c a b =>
  have p:=d c (by simp[Op.operands]);have u:=d a (by simp[Op.operands]);have T:=d b (by simp[Op.operands]);simp only[opK,p,u,T]
  (repeat' split)<;>first|exact h0|exact k _
 |box _ x =>
  have e:=d x (by simp[Op.operands]);simp only[opK,e]
  (repeat' split)<;>first|exact h0|exact ha rfl _ _
 |alloc e =>
  simp only[opK]
  (repeat' split)<;>first|exact h0|exact ha rfl _ _
 |build ty ps =>
  have e:=ahh (l:=ps.toList) (t:=t) (t2:=t2) fun x q=>d x (by simpa[Op.operands] using q);simp only[opK,e]
  (repeat' split)<;>first|exact h0|exact k _
 |buildSlice ty n ps=>exact absurd z (by decide:¬2<=1)
 |load ty a =>
  have e:=d a (by simp[Op.operands]);have j:=C rfl a (by simp[Op.operands]);simp only[opK,e];rw[aeX j];exact pb2 h0 (we ..) (we ..) fun v=>k v
 |nilCheck x =>
  have e:=d x (by simp[Op.operands]);have j:=C rfl x (by simp[Op.operands]);simp only[opK,e]
  cases O:ev t x with
  |optr id g i off =>
   have:=j id (by rw[O]; simp[refs1,ŏ]);simp only[this]
   (repeat' split)<;>first|exact h0|exact k _
  |_=>first|exact h0|exact k _
 |binOp op ty x y yt =>
  have p:=d x (by simp[Op.operands]);have u:=d y (by simp[Op.operands]);simp only[opK,p,u];exact pb2 h0 (Ca ..) (Ca ..) fun v=>k v
 |unOp op ty x =>
  have e:=d x (by simp[Op.operands]);simp only[opK,e]
  (repeat' split)<;>first|exact h0|exact k _|exact pb2 h0 (Fh ..) (Fh ..) fun v=>k v
 |convert src dst x =>
  have e:=d x (by simp[Op.operands]);simp only[opK,e]
  (repeat' split)<;>first|exact h0|exact k _
 |makeFunc fn first captured =>
  have p:=Nv (l:=first.toList) (t:=t) (t2:=t2) fun x q=>d x (by simp[Op.operands]; exact .inl (by simpa using q));have u:=Nv (l:=captured.toList) (t:=t) (t2:=t2) fun x q=>d x (by simp[Op.operands]; exact .inr (by simpa using q));simp only[opK,p,u]
  (repeat' split)<;>first|exact h0|exact k _
 |makeMap ty r =>
  simp only[opK]
  (repeat' split)<;>first|exact h0|exact ha rfl _ _
 |makeSlice ty l c =>
  have e:=d l (by simp[Op.operands]);simp only[opK,e]
  (repeat' split)<;>first|exact h0|exact ha rfl _ _
 |slice ty x lo hi mx =>
  have e:=d x (by simp[Op.operands]);have j:=C rfl x (by simp[Op.operands])
  have p:lo.map (ev t2)=lo.map (ev t):=by
   cases lo with
   |none=>rfl
   |some l=>simp[d l (by simp[Op.operands])]
  have u:hi.map (ev t2)=hi.map (ev t):=by
   cases hi with
   |none=>rfl
   |some l=>simp[d l (by simp[Op.operands])]
  simp only[opK,e,p,u]
  (repeat' split)<;>first
   |exact h0
   | (obtain ⟨φ, N, L⟩ := aav j
      rw[N,L]
      exact pbind h0 fun v=>k v)
 |fieldAddr ty x f =>
  have e:=d x (by simp[Op.operands]);have j:=C rfl x (by simp[Op.operands]);simp only[opK,e]
  (repeat' split)<;>first
   |exact h0
   |(rw[aay j]; exact pb2 h0 (qD ..) (qD ..) fun v=>k v)
 |field ty x f =>
  have e:=d x (by simp[Op.operands]);simp only[opK,e]
  (repeat' split)<;>first|exact h0|exact k _
 |indexAddr ty x i =>
  have p:=d x (by simp[Op.operands]);have u:=d i (by simp[Op.operands]);have j:=C rfl x (by simp[Op.operands]);simp only[opK,p,u]
  (repeat' split)<;>first
   |exact h0
   |exact k _
   |exact pb2 h0 (jp ..) (jp ..) fun v=>k _
   |(rw[abd j]; exact pb2 h0 (qK ..) (qK ..) fun v=>k v)
 |index ty x i =>
  have p:=d x (by simp[Op.operands]);have u:=d i (by simp[Op.operands]);simp only[opK,p,u]
  (repeat' split)<;>first|exact h0|exact k _|exact pb2 h0 (jp ..) (jp ..) fun v=>by(repeat' split)<;>first|exact h0|exact k _
 |lookup ty m i ok =>
  have p:=d m (by simp[Op.operands]);have u:=d i (by simp[Op.operands]);have j:=C rfl m (by simp[Op.operands]);simp only[opK,p,u];rw[Zp j];exact pb2 h0 (nR ..) (nR ..) fun v=>k v
 |extract x i =>
  have e:=d x (by simp[Op.operands]);simp only[opK,e]
  (repeat' split)<;>first|exact h0|exact k _
 |call c =>
  obtain⟨A,s,tys⟩:=c
  cases A with
  |builtin b =>
   have e:=Nv (l:=s.toList) (t:=t) (t2:=t2) fun x q=>d x (by simpa[Op.operands,Call.operands] using q);have j:cls E (.call ⟨.builtin b,s,tys⟩)=1->∀x∈s.toList,∀id∈refs1 (ev t x),lkB h2 id=lkB h id:=fun S x q=>C S x (by simpa[Op.operands,Call.operands] using q);generalize H:s.toList=l at e j;generalize q:tys.toList=m
   cases b with
   |append=>simp[cls] at z
   |clear=>simp[cls] at z
   |len =>
    rcases l with _|⟨x,_|⟨y,l⟩⟩<;>rcases m with _|⟨ty,m⟩<;>simp only[opK,H,q]<;>try exact h0
    have p:ev t2 x=ev t x:=by simpa using e
    rw[p,ahT (j rfl x (by simp))];exact pb2 h0 (Bv ..) (Bv ..) fun v=>k v
   |cap =>
    rcases l with _|⟨x,_|⟨y,l⟩⟩<;>rcases m with _|⟨ty,m⟩<;>simp only[opK,H,q]<;>try exact h0
    have p:ev t2 x=ev t x:=by simpa using e
    rw[p]
    (repeat' split)<;>first|exact h0|exact k _
   |min =>
    rcases l with _|⟨x,l⟩<;>simp only[opK,H,q]<;>try exact h0
    simp only[eX,List.cons.injEq] at e;rw[e.1,e.2];exact pb2 h0 (jd _ _ _ _) (jd _ _ _ _) fun v=>k v
   |max =>
    rcases l with _|⟨x,l⟩<;>simp only[opK,H,q]<;>try exact h0
    simp only[eX,List.cons.injEq] at e;rw[e.1,e.2];exact pb2 h0 (jd _ _ _ _) (jd _ _ _ _) fun v=>k v
   |_=>simp only[opK]; (repeat' split)<;>first|exact h0|contradiction
  |value f=>cases G
  |invoke r m=>exact h0
 |store=>simp[cls] at z
 |mapUpdate=>simp[cls] at z
 |_=>exact h0
def aps (ups:CK (Nat×Blk)) (h:CK Blk):CK Blk:=ups.foldl (fun h p=>č h p.1 p.2) h
def abQ {id:Nat} {B:Blk}:aps [(id,B)] h=č h id B:=rfl
def oc {u v:CK (Nat×Blk)}:aps (u++v) h=aps v (aps u h):=by simp[aps]
def wg:∀(ups:CK (Nat×Blk)) (h:CK Blk),(aps ups h).length=h.length
 |[],_=>rfl
 |p::ups,h=>by show(aps ups (č h p.1 p.2)).length=_; rw[wg ups,ä]
def Uu {id:Nat}:∀{ups:CK (Nat×Blk)} {h:CK Blk},(∀p∈ups,p.1≠id)->lkB (aps ups h) id=lkB h id
 |[],_,_=>rfl
 |p::ups,h,b=>by
  show lkB (aps ups (č h p.1 p.2)) id=_;rw[Uu fun q c=>b q (by simp[c]),Ø _ (Ne.symm (b p (by simp)))]
def Cb {id:Nat}:∀{ups:CK (Nat×Blk)} {h h2:CK Blk},h2.length=h.length->lkB h2 id=lkB h id->lkB (aps ups h2) id=lkB (aps ups h) id
 |[],_,_,_,b=>b
 |p::ups,h,h2,c,b=>Cb (ups:=ups) (h:=č h p.1 p.2) (h2:=č h2 p.1 p.2) (by simp[ä,c]) (by simp only[xF,c,b])
def adv {v:AV} (d:∀id∈ŏ v,lkB h2 id=lkB h id):∃ups,sk h v=aps ups h/\sk h2 v=aps ups h2/\∀p∈ups,p.1∈ŏ v:=by
 have no:sk h v=h->sk h2 v=h2->∃ups,sk h v=aps ups h/\sk h2 v=aps ups h2/\∀p∈ups,p.1∈ŏ v:=fun f c=>⟨[],f,c,by simp⟩
 cases v with
 |own id g =>
  have e:=d id (by simp[ŏ])
  cases b:lkB h id with
  |row t g fz xs =>
   rw[b] at e;exact⟨[(id,.row t g true xs)],by simp only[sk,b]; rfl,by simp only[sk,e]; rfl,by simp[ŏ]⟩
  |_=>rw[b] at e; exact no (by simp only[sk,b]) (by simp only[sk,e])
 |sub id g lo n =>
  have e:=d id (by simp[ŏ])
  cases b:lkB h id with
  |row t g fz xs =>
   rw[b] at e;exact⟨[(id,.row t g true xs)],by simp only[sk,b]; rfl,by simp only[sk,e]; rfl,by simp[ŏ]⟩
  |_=>rw[b] at e; exact no (by simp only[sk,b]) (by simp only[sk,e])
 |_=>exact no rfl rfl
def V6:∀{cs:CK AV} {h h2:CK Blk},h2.length=h.length->(∀c∈cs,∀id∈ŏ c,lkB h2 id=lkB h id)->∃ups,CA h cs=aps ups h/\CA h2 cs=aps ups h2/\∀p∈ups,∃c∈cs,p.1∈ŏ c
 |[],_,_,_,_=>⟨[],rfl,rfl,by simp⟩
 |c::cs,h,h2,i,f=>by
  obtain⟨u,j,e,o⟩:=adv (f c (by simp));obtain⟨v,m,l,k⟩:=V6 (cs:=cs) (h:=sk h c) (h2:=sk h2 c) (by rw[nX,nX,i]) (fun d hd id hi=>by rw[j,e]; exact Cb i (f d (by simp[hd]) id hi));refine⟨u++v,by simp only[CA]; rw[m,j,oc],by simp only[CA]; rw[l,e,oc],fun p b=>?_⟩;rcases df.1 b with b|b
  ·exact⟨c,by simp,o p b⟩
  ·obtain⟨d,hd,hi⟩:=k p b;exact⟨d,by simp[hd],hi⟩
def abj {v:AV} (l:h2.length=h.length) (k:∀id∈refs1 v,lkB h2 id=lkB h id):∃ups,frz h v=aps ups h/\frz h2 v=aps ups h2/\∀p∈ups,p.1∈refs1 v:=by
 have one:(∀id∈ŏ v,lkB h2 id=lkB h id)->∃ups,sk h v=aps ups h/\sk h2 v=aps ups h2/\∀p∈ups,p.1∈ŏ v:=adv
 cases v with
 |agg cs =>
  obtain⟨u,j,d,i⟩:=V6 (cs:=cs) l fun c m id hi=>k id (dB.2 ⟨c,m,hi⟩);exact⟨u,j,d,fun p e=>dB.2 (i p e)⟩
 |fn f a b =>
  obtain⟨u,j,d,i⟩:=one fun _ hi=>by cases hi
  exact⟨u,j,d,fun p e=>by cases i p e⟩
 |_=>exact one k
def Kd {ty:Ty} {x:AV} (b:∀id∈refs1 x,lkB h2 id=lkB h id):Û (.slice ty) [Ă h2 x]=Û (.slice ty) [Ă h x]:=by
 have:Ă h2 x=Ă h x:=qC fun id hi=>b id (by cases x<;>first|exact hi|simp[ŏ] at hi)
 rw[this]
def afn {v:AV} {vs:CK AV} (d:ş v=some vs):∀c∈vs,∀id∈ŏ c,id∈refs1 v:=by
 intro c b id hi
 cases v<;>simp only[ş,Option.some.injEq,reduceCtorEq] at d<;>subst d
 all_goals first
  |(simp only[di] at b; subst b; exact hi)
  |(simp only[di] at b; subst b; cases hi; done)
  |exact dB.2 ⟨c,b,hi⟩
def Xb {σ σ2:Type} {R:BY σ->BY σ2->Prop} {ty:TypeId} {a v:AV} {K:CK Blk->BY σ} {K2:CK Blk->BY σ2} (h0:R none none) (d:h2.length=h.length)
 (k:∀id∈refs1 a,lkB h2 id=lkB h id) (j:∀id∈refs1 v,lkB h2 id=lkB h id) (l:∀ups,(∀p∈ups,p.1∈refs1 a\/p.1∈refs1 v)->R (K (aps ups h)) (K2 (aps ups h2))):R (yn P h ty a v K) (yn P h2 ty a v K2):=by
 unfold yn
 split<;>try exact h0
 rename_i vs e
 split<;>try exact h0
 split<;>try exact h0
 ·rename_i id off;have f:=k id (by simp[refs1,ŏ]);rw[f]
  (repeat' split)<;>first
   |exact h0
   |exact l [(id,_)] fun p b=>.inl (by simp only[di] at b; subst b; simp[refs1,ŏ])
 ·rename_i id g i off;have f:=k id (by simp[refs1,ŏ]);obtain⟨u,o,m,s⟩:=abj (v:=v) d j
  have y:lkB (frz h2 v) id=lkB (frz h v) id:=by rw[o,m]; exact Cb d f
  have x:vs.map (Ă h2)=vs.map (Ă h):=fj fun c r=>qC fun id hi=>j id (afn e c r id hi);rw[y,x]
  (repeat' split)<;>first
   |exact h0
   | (rw [o, m]
      refine l (u++[(id,_)]) (fun p b=>?_) |> fun q=>(by simpa only[oc,abQ] using q)
      rcases df.1 b with b|b
      ·exact .inr (s p b)
      ·exact .inl (by simp only[di] at b; subst b; simp[refs1,ŏ]))
def adt:∀{ps:CK (Nat×AV)} {h h2:CK Blk},h2.length=h.length->(∀p∈ps,∀id∈refs1 p.2,lkB h2 id=lkB h id)->∃ups,frzA h ps=aps ups h/\frzA h2 ps=aps ups h2/\∀p∈ups,∃q∈ps,p.1∈refs1 q.2
 |[],_,_,_,_=>⟨[],rfl,rfl,by simp⟩
 |(i,v)::ps,h,h2,e,j=>by
  obtain⟨u,f,b,o⟩:=abj (v:=v) e (j (i,v) (by simp));obtain⟨w,m,l,k⟩:=adt (ps:=ps) (h:=frz h v) (h2:=frz h2 v) (by rw[f,b,wg,wg,e]) (fun q d id hi=>by rw[f,b]; exact Cb e (j q (by simp[d]) id hi));refine⟨u++w,by simp only[frzA]; rw[m,f,oc],by simp only[frzA]; rw[l,b,oc],fun p c=>?_⟩;rcases df.1 c with c|c
  ·exact⟨(i,v),by simp,o p c⟩
  ·obtain⟨q,d,hi⟩:=k p c;exact⟨q,by simp[d],hi⟩
def amY {σ σ2:Type} {R:BY σ->BY σ2->Prop} {E:Env ρ} {o:Op} {nid:Nat} {eat:Bool} {K:AV->St->BY σ} {K2:AV->St->BY σ2} (h0:R none none) (S:cls E o=2) (T:TZ o=false) (k:h2.length=h.length) (heat:∀ty n ps,o=.buildSlice ty n ps->eat=false)
 (L:∀x∈o.operands.toList,ev t2 x=ev t x) (U:∀x∈o.operands.toList,∀id∈refs1 (ev t x),lkB h2 id=lkB h id)
 (J:∀v ups,(∀p∈ups,(p.1=nid/\Ĕ E.clone o=true)\/∃x∈o.operands.toList,p.1∈refs1 (ev t x))->R (K v {t:=t,h:=aps ups h}) (K2 v {t:=t2,h:=aps ups h2})) :
 R (opK P {t:=t,h:=h} nid eat o K) (opK P {t:=t2,h:=h2} nid eat o K2):=by
 cases o with
 |buildSlice ty n ps =>
  obtain rfl:=heat ty n ps rfl;have e:=ahh (l:=ps.toList) (t:=t) (t2:=t2) fun x A=>L x (by simpa[Op.operands] using A)
  have Y:∀p∈ps.toList.map (fun p=>(p.1,ev t p.2)),∀id∈refs1 p.2,lkB h2 id=lkB h id:=fun p d=>by
   obtain⟨q,hq,rfl⟩:=dz.1 d;exact U q.2 (by simpa[Op.operands] using⟨q.1,by simpa using hq⟩)
  have hr:∀ty n,QL h2 ty n (ps.toList.map fun p=>(p.1,ev t p.2))=QL h ty n (ps.toList.map fun p=>(p.1,ev t p.2)):=fun ty n=>Sx Y;obtain⟨u,f1,f2,f3⟩:=adt k Y;simp only[opK,e,hr,f1,f2]
  (repeat' split)<;>first
   |exact h0
   | (refine J _ (u ++ [(nid, _)]) (fun p d => ?_) |> fun q => (by simpa only [oc, abQ] using q)
      rcases df.1 d with d|d
      ·obtain⟨q,hq,hi⟩:=f3 p d;obtain⟨q',hq',rfl⟩:=dz.1 hq;exact .inr ⟨q'.2,by simpa[Op.operands] using⟨q'.1,by simpa using hq'⟩,hi⟩
      ·exact .inl ⟨by simp only[di] at d; subst d; rfl,rfl⟩)
 |store ty a v =>
  have e1:=L a (by simp[Op.operands]);have e2:=L v (by simp[Op.operands]);have W:=U a (by simp[Op.operands]);have s2:=U v (by simp[Op.operands]);have ma:∀{id:Nat},id∈refs1 (ev t a)->∃x∈(Op.store ty a v).operands.toList,id∈refs1 (ev t x):=fun hi=>⟨a,by simp[Op.operands],hi⟩;have Z:∀{id:Nat},id∈refs1 (ev t v)->∃x∈(Op.store ty a v).operands.toList,id∈refs1 (ev t x):=fun hi=>⟨v,by simp[Op.operands],hi⟩;simp only[opK,e1,e2]
  cases eat with
  |false =>
   simp only;exact Xb h0 k W s2 fun ups O=>J _ ups fun p d=>.inr ((O p d).elim ma Z)
  |true =>
   simp only
   cases N:ev t v with
   |sub id g lo n =>
    rw[N] at s2 Z;have e3:=s2 id (by simp[refs1,ŏ]);simp only[e3]
    split<;>try exact h0
    split<;>try exact h0
    refine Xb h0 (by simp[ä,k]) (fun j hj=>?_) (fun j hj=>?_) fun ups O=>J _ ((id,_)::ups) fun p d=>.inr ?_
    ·exact Cb (ups:=[(id,_)]) k (W j hj)
    ·simp only[refs1,ŏ,di] at hj;subst hj;exact Cb (ups:=[(_,_)]) k e3
    ·rcases dg.1 d with rfl|d
     ·exact Z (by simp[refs1,ŏ])
     ·rcases O p d with O|O
      ·exact ma O
      ·exact Z (by simpa[refs1,ŏ] using O)
   |_=>exact h0
 |mapUpdate ty m i x =>
  have e1:=L m (by simp[Op.operands]);have e2:=L i (by simp[Op.operands]);have e3:=L x (by simp[Op.operands]);have W:=U m (by simp[Op.operands]);have s3:=U x (by simp[Op.operands]);obtain⟨u,f1,f2,f3⟩:=abj (v:=ev t x) k s3;simp only[opK,e1,e2,e3];unfold mc;rw[MQ s3]
  split<;>try exact h0
  split<;>try exact h0
  rename_i id A;rw[A] at W;rw[W id (by simp[refs1,ŏ])]
  (repeat' split)<;>first
   |exact h0
   | (rw [f1, f2]
      refine J _ (u++[(id,_)]) (fun p d=>?_) |> fun q=>(by simpa only[oc,abQ] using q)
      rcases df.1 d with d|d
      ·exact .inr ⟨x,by simp[Op.operands],f3 p d⟩
      ·exact .inr ⟨m,by simp[Op.operands],by simp only[di] at d; subst d; rw[A]; simp[refs1,ŏ]⟩)
 |call c =>
  obtain⟨H,s,tys⟩:=c
  cases H with
  |builtin b =>
   have e:=Nv (l:=s.toList) (t:=t) (t2:=t2) fun x A=>L x (by simpa[Op.operands,Call.operands] using A);have G:∀x∈s.toList,∀id∈refs1 (ev t x),lkB h2 id=lkB h id:=fun x A=>U x (by simpa[Op.operands,Call.operands] using A)
   have C:∀x∈s.toList,x∈(Op.call ⟨.builtin b,s,tys⟩).operands.toList:=fun x A=>by simpa[Op.operands,Call.operands] using A
   generalize hl:s.toList=l at e G C;generalize A:tys.toList=m
   cases b with
   |append =>
    rcases l with _|⟨x,_|⟨y,_|⟨z,l⟩⟩⟩<;>rcases m with _|⟨ty,_|⟨ty',_|⟨ty'',m⟩⟩⟩<;>simp only[opK,hl,A]<;>try exact h0
    simp only[eX,List.cons.injEq,fo,and_true] at e;rw[e.1,e.2];have V:=G x (by simp);have sy:=G y (by simp);have I:∀v B,R (K v {t:=t,h:=č h nid B}) (K2 v {t:=t2,h:=č h2 nid B}):=fun v B=>J v [(nid,B)] fun p d=>.inl ⟨by simp only[di] at d; subst d; rfl,rfl⟩
    (repeat' split)<;>first
     |exact h0
     | (unfold A9
        simp only[Kd sy]
        split<;>try exact h0
        split<;>try exact h0
        split<;>try exact h0
        split<;>try exact h0
        split<;>try exact h0
        ·split<;>first|exact h0|exact I _ _
        ·rename_i id g N;rw[N] at V;rw[V id (by simp[refs1,ŏ])]
         (repeat' split)<;>first
          |exact h0
          |exact J _ [(id,_)] fun p d=>.inr ⟨x,C x (by simp),by simp only[di] at d; subst d; rw[N]; simp[refs1,ŏ]⟩)
     | (unfold Ka
        (repeat' split)<;>first|exact h0|exact I _ _)
   |clear =>
    rcases l with _|⟨x,_|⟨y,l⟩⟩<;>rcases m with _|⟨ty,_|⟨ty',m⟩⟩<;>simp only[opK,hl,A]<;>try exact h0
    simp only[eX,List.cons.injEq,fo,and_true] at e;rw[e];have V:=G x (by simp)
    split<;>try exact h0
    unfold KO
    split<;>try exact h0
    ·exact J _ [] (by simp)
    ·rename_i id g lo n _ N _;rw[N] at V;rw[V id (by simp[refs1,ŏ])]
     (repeat' split)<;>first
      |exact h0
      |exact J _ [(id,_)] fun p d=>.inr ⟨x,C x (by simp),by simp only[di] at d; subst d; rw[N]; simp[refs1,ŏ]⟩
   |_=>simp[cls] at S
  |value f=>cases T
  |invoke r m=>simp[cls] at S
 |_=>simp[cls] at S
end
end Go.Am
end

noncomputable section
namespace Go.Am
variable [Ghost]
section
variable {ρ:Type} {P:Program} {h h2:CK Blk} {t t2:CK AV}
def Z7 {ty:Ty} {a:AV} (d:pu h h2 a):alI h2 ty a=alI h ty a:=by
 have b:acd h2 a=acd h a:=MQ d.one
 cases ty with
 |ptr u =>
  cases a with
  |box id off =>
   cases off with
   |zero =>
    have j:lkB h2 id=lkB h id:=d.one id (by simp[refs1,ŏ]);simp only[alI,j]
    cases e:lkB h id with
    |cells cs =>
     simp only
     have:cs.map (Ă h2)=cs.map (Ă h):=fj fun c f=>qC fun i hi=>d i (by
      simp only[refs2,df,dB]
      exact .inr ⟨id,by simp[refs1,ŏ],by rw[e]; exact⟨c,f,hi⟩⟩)
     rw[this]
    |_=>rfl
   |succ n=>rfl
  |eptr k x off=>cases off<;>rfl
  |_=>rfl
 |_=>cases a with
  |_=>simp only[alI,b]
def Us:∀{l:CK Ty} {ty:Ty} {as:CK AV},(∀a∈as,pu h h2 a)->WJ h2 l ty as=WJ h l ty as
 |[],ty,[],_=>rfl
 |[],ty,[a],c=>by simp only[WJ]; exact Z7 (c a (by simp))
 |[],ty,_::_::_,_=>rfl
 |u::l,ty,[],_=>rfl
 |u::l,ty,a::as,c=>by
  simp only[WJ];rw[Z7 (c a (by simp)),Us fun b hb=>c b (by simp[hb])]
def Ut {l:CK Ty} {as:CK AV} (b:∀a∈as,pu h h2 a):Fg h2 l as=Fg h l as:=by
 cases l with
 |nil=>rfl
 |cons ty l=>exact Us b
def abp {E:Env ρ} {o:Op} (c:∀x∈o.operands.toList,ev t2 x=ev t x):Ui E t2 o=Ui E t o:=by
 unfold Ui
 split
 ·rename_i s b tys;rw[c (.tmp s) (by simp[Op.operands,Call.operands])]
 ·rfl
def P6 {E:Env ρ} {o:Op} (d:∀x∈o.operands.toList,ev t2 x=ev t x) (e:1<=cls E o->∀x∈o.operands.toList,pu h h2 (ev t x)) :
 nz E {t:=t2,h:=h2} o=nz E {t:=t,h:=h} o:=by
 unfold nz
 split
 ·rename_i f;have b:1<=cls E o:=eZ f
  have i:(o.operands.toList.all fun x=>(refs2 h2 (ev t2 x)).all fun id=>!ah0 (lkB h2 id))=o.operands.toList.all fun x=>(refs2 h (ev t x)).all fun id=>!ah0 (lkB h id):=by
   rw[eN];simp only[dG];refine forall_congr' fun x=>forall_congr' fun c=>?_;rw[d x c,(e b x c).refs]
   exact forall_congr' fun id=>forall_congr' fun hi=>by rw[e b x c id hi]
  exact congr (congrArg and i) (abp d)
 ·rfl
def qo {E:Env ρ} {o:Op} (b:1<=cls E o) {id:Nat}:id∈CB E {t:=t,h:=h} o↔∃x∈o.operands.toList,id∈refs2 h (ev t x):=by
 unfold CB;have:Nat.ble 1 (cls E o)=true:=Nat.ble_eq_true_of_le b;simp only[this,List.mem_flatMap]
def H6 {E:Env ρ} {o:Op} (b:cls E o=0) {S:St}:CB E S o=[]:=by
 unfold CB; rw[b]
def Loc (E:Env ρ) (o:Op) (nid:Nat) (t:CK AV) (h:CK Blk) (t2:CK AV) (h2:CK Blk) (z b:(AV->St->BY ρ)->BY ρ):Prop :=
 ∃φ:BY (AV×CK (Nat×Blk)),(∀r,φ=some r->∀p∈r.2,(p.1=nid/\Ĕ E.clone o=true)\/(cls E o=2/\p.1∈CB E {t:=t,h:=h} o)) /\
  (∀K,z K=φ.bind fun r=>K r.1 {t:=t,h:=aps r.2 h})/\∀K,b K=φ.bind fun r=>K r.1 {t:=t2,h:=aps r.2 h2}
def Loc.no {E:Env ρ} {o:Op} {nid:Nat} {z c:(AV->St->BY ρ)->BY ρ} (d:∀K,z K=none) (b:∀K,c K=none):Loc E o nid t h t2 h2 z c :=
 ⟨none,by simp,fun K=>by rw[d]; rfl,fun K=>by rw[b]; rfl⟩
def aiI {σ σ2:Type} {R:BY σ->BY σ2->Prop} {g nid:Nat} {fz:Bool} {x:AV} {K:AV->St->BY σ} {K2:AV->St->BY σ2} (h0:R none none) (d:∀id∈refs1 x,lkB h2 id=lkB h id)
 (b:∀v c,R (K v {t:=t,h:=ap nid c h}) (K2 v {t:=t2,h:=ap nid c h2})):R (AX P g fz {t:=t,h:=h} nid x K) (AX P g fz {t:=t2,h:=h2} nid x K2):=by
 simp only[AX,Kd d]
 (repeat' split)<;>first|exact h0|exact b _ none|exact b _ (some _)
def efU (nid:Nat):BY Blk->CK (Nat×Blk)
 |none=>[]
 |some B=>[(nid,B)]
def ad2 {nid:Nat} {b:BY Blk}:ap nid b h=aps (efU nid b) h:=by cases b<;>rfl
def amM {E:Env ρ} {call:CK Nat->Bool->Nat->CK AV->CK Blk->(AV->CK Blk->BY ρ)->BY ρ} {fid:Nat} {path:CK Nat} {nid:Nat} {o:Oper}
 (k:ajO E call) (J:cls E o.op<=2) (hlen:h2.length=h.length) (hx:∀x∈o.op.operands.toList,ev t2 x=ev t x) (hs:1<=cls E o.op->∀x∈o.op.operands.toList,pu h h2 (ev t x)) :
 Loc E o.op nid t h t2 h2 (iE E call fid path true {t:=t,h:=h} nid o) (iE E call fid path true {t:=t2,h:=h2} nid o):=by
 have z:=P6 hx hs
 cases L:nz E {t:=t,h:=h} o.op with
 |false=>exact .no (fun K=>by simp[iE,L]) (fun K=>by simp[iE,z,L])
 |true =>
  rw[L] at z
  have plain:(∀f d tys,o.op≠.call ⟨.value f,d,tys⟩)->Loc E o.op nid t h t2 h2 (iE E call fid path true {t:=t,h:=h} nid o) (iE E call fid path true {t:=t2,h:=h2} nid o):=by
   intro hno
   have C:∀S:St,nz E S o.op=true->∀K,iE E call fid path true S nid o K=opK E.P S nid (Sb E true fid o) o.op K:=fun S Z K=>by
    unfold iE;simp only[Z,Bool.not_true,Bool.and_false,Bool.false_and]
   have Y:TZ o.op=false:=by
    cases I:o.op<;>try rfl
    rename_i c;obtain⟨f,d,tys⟩:=c
    cases f<;>first|rfl|exact absurd I (hno _ _ _)
   have fin:(∃φ:BY (AV×CK (Nat×Blk)),(∀r,φ=some r->∀p∈r.2,(p.1=nid/\Ĕ E.clone o.op=true)\/(cls E o.op=2/\p.1∈CB E {t:=t,h:=h} o.op)) /\
    opK E.P {t:=t,h:=h} nid (Sb E true fid o) o.op (fun v S=>some (v,S))=φ.map (fun r=>(r.1,({t:=t,h:=aps r.2 h}:St)))/\opK E.P {t:=t2,h:=h2} nid (Sb E true fid o) o.op (fun v S=>some (v,S))=φ.map fun r=>(r.1,({t:=t2,h:=aps r.2 h2}:St))) ->
    Loc E o.op nid t h t2 h2 (iE E call fid path true {t:=t,h:=h} nid o) (iE E call fid path true {t:=t2,h:=h2} nid o):=by
    rintro⟨φ,h1,h2',h3⟩;refine⟨φ,h1,fun K=>?_,fun K=>?_⟩
    ·rw[C _ L,U3]; unfold opR; rw[h2']; cases φ<;>rfl
    ·rw[C _ z,U3]; unfold opR; rw[h3]; cases φ<;>rfl
   apply fin
   by_cases h2c:cls E o.op=2
   ·refine amY (P:=E.P) (E:=E) (o:=o.op) (nid:=nid) (σ:=AV×St) (σ2:=AV×St) (K:=fun v S=>some (v,S)) (K2:=fun v S=>some (v,S))
     (R:=fun x y=>∃φ:BY (AV×CK (Nat×Blk)),(∀r,φ=some r->∀p∈r.2,(p.1=nid/\Ĕ E.clone o.op=true)\/(cls E o.op=2/\p.1∈CB E {t:=t,h:=h} o.op))/\x=φ.map (fun r=>(r.1,({t:=t,h:=aps r.2 h}:St)))/\y=φ.map fun r=>(r.1,({t:=t2,h:=aps r.2 h2}:St)))
     ⟨none,by simp,rfl,rfl⟩ h2c Y hlen (fun ty n ps I=>by rw[Sb,I]; rfl) hx (fun x G=>(hs (by omega) x G).one) fun v ups hu=>⟨some (v,ups),fun r H p m=>?_,rfl,rfl⟩
    cases H;rcases hu p m with hu|⟨x,G,hi⟩
    ·exact .inl hu
    ·exact .inr ⟨h2c,(qo (by omega)).2 ⟨x,G,by simp only[refs2,df]; exact .inl hi⟩⟩
   ·have hea:Sb E true fid o=false:=by
     unfold Sb
     cases I:o.op<;>first|rfl|(exfalso; apply h2c; rw[I]; rfl)
    rw[hea]
    refine al7 (P:=E.P) (E:=E) (o:=o.op) (nid:=nid) (σ:=AV×St) (σ2:=AV×St) (K:=fun v S=>some (v,S)) (K2:=fun v S=>some (v,S))
     (R:=fun x y=>∃φ:BY (AV×CK (Nat×Blk)),(∀r,φ=some r->∀p∈r.2,(p.1=nid/\Ĕ E.clone o.op=true)\/(cls E o.op=2/\p.1∈CB E {t:=t,h:=h} o.op))/\x=φ.map (fun r=>(r.1,({t:=t,h:=aps r.2 h}:St)))/\y=φ.map fun r=>(r.1,({t:=t2,h:=aps r.2 h2}:St)))
     ⟨none,by simp,rfl,rfl⟩ (by omega) Y hx (fun h1 x G=>(hs (by omega) x G).one) fun v ef hef=>⟨some (v,efU nid ef),fun r H p m=>?_,by rw[ad2]; rfl,by rw[ad2]; rfl⟩
    cases H
    cases ef with
    |none=>cases m
    |some B =>
     simp only[efU,di] at m;subst m;exact .inl ⟨rfl,hef rfl⟩
  cases I:o.op with
  |call c =>
   obtain⟨f,d,tys⟩:=c
   cases f with
   |value f =>
    cases f with
    |func g =>
     rw[I] at hx hs J;have hxa:∀x∈d.toList,ev t2 x=ev t x:=fun x G=>hx x (by simp[Op.operands,Call.operands]; exact .inr (by simpa using G))
     have j:∀x∈d.toList,x∈(Op.call ⟨.value (.func g),d,tys⟩).operands.toList:=fun x G=>by simp[Op.operands,Call.operands]; exact .inr (by simpa using G)
     have he:=Nv hxa
     cases hc:E.clone g with
     |true =>
      have hcls:cls E (.call ⟨.value (.func g),d,tys⟩)=1:=by simp[cls,hc]
      have C:∀(S:St),nz E S o.op=true->∀K,iE E call fid path true S nid o K=match d.toList with
       |[x]=>AX E.P g (E.eat fid (o.dst.getD 0)) S nid (ev S.t x) K
       |_=>none:=fun S Z K=>by
       unfold iE;simp only[Z,Bool.not_true,Bool.and_false];rw[I];simp only[ev,hc,aeZ,Bool.and_self];rfl
      generalize hl:d.toList=l at C he hxa j;rcases l with _|⟨x,_|⟨y,l⟩⟩
      ·exact .no (fun K=>C _ L K) (fun K=>C _ z K)
      ·have hsx:=(hs (by omega) x (j x (by simp))).one;have e1:=hxa x (by simp)
       obtain⟨φ,h1,h2',h3⟩:=aiI (P:=E.P) (g:=g) (fz:=E.eat fid (o.dst.getD 0)) (nid:=nid) (t:=t) (t2:=t2) (σ:=AV×St) (σ2:=AV×St) (K:=fun v S=>some (v,S)) (K2:=fun v S=>some (v,S))
        (R:=fun x y=>∃φ:BY (AV×CK (Nat×Blk)),(∀r,φ=some r->∀p∈r.2,p.1=nid)/\x=φ.map (fun r=>(r.1,({t:=t,h:=aps r.2 h}:St)))/\y=φ.map fun r=>(r.1,{t:=t2,h:=aps r.2 h2}))
        ⟨none,by simp,rfl,rfl⟩ hsx fun v ef=>⟨some (v,efU nid ef),fun r H p m=>by
         cases H
         cases ef with
         |none=>cases m
         |some B=>simp only[efU,di] at m; rw[m],by rw[ad2]; rfl,by rw[ad2]; rfl⟩
       refine⟨φ,fun r H p m=>.inl ⟨h1 r H p m,by simpa[Ĕ] using hc⟩,fun K=>?_,fun K=>?_⟩
       ·rw[C _ L];simp only;rw[J0,h2']
        cases φ<;>rfl
       ·rw[C _ z];simp only[e1];rw[J0,h3]
        cases φ<;>rfl
      ·exact .no (fun K=>C _ L K) (fun K=>C _ z K)
     |false =>
      have C:∀(S:St),nz E S o.op=true->∀K,iE E call fid path true S nid o K=call path true g (d.toList.map (ev S.t)) S.h fun v h=>K v {t:=S.t,h:=h}:=fun S Z K=>by
       unfold iE;simp only[Z,Bool.not_true,Bool.and_false];rw[I];simp only[ev,hc,aeZ,Bool.false_and,List.nil_append,List.append_nil]
      rcases k with k|⟨k,hse,hce⟩
      ·exact .no (fun K=>by rw[C _ L]; exact k _ _ _ _ _ _) (fun K=>by rw[C _ z]; exact k _ _ _ _ _ _)
      cases m:E.pure g with
      |none =>
       have h1c:1<=cls E (.call ⟨.value (.func g),d,tys⟩):=by simp only[cls,hc,m]; cases E.sort g<;>cases E.compact g<;>simp
       have row:∀(f:CK Blk->AV->(AV->CK Blk->BY ρ)->BY ρ),(∀S K,nz E S o.op=true->iE E call fid path true S nid o K=match d.toList.map (ev S.t) with|[x]=>f S.h x fun v h=>K v {t:=S.t,h:=h}|_=>none)->cls E (.call ⟨.value (.func g),d,tys⟩)=2 ->
        (∀x,(∀id∈refs1 x,lkB h2 id=lkB h id)->∃φ:BY (AV×CK (Nat×Blk)),(∀r,φ=some r->∀p∈r.2,p.1∈refs1 x)/\(∀K,f h x K=φ.bind fun r=>K r.1 (aps r.2 h))/\∀K,f h2 x K=φ.bind fun r=>K r.1 (aps r.2 h2)) ->
        Loc E (.call ⟨.value (.func g),d,tys⟩) nid t h t2 h2 (iE E call fid path true {t:=t,h:=h} nid o) (iE E call fid path true {t:=t2,h:=h2} nid o):=by
        intro f N h2c hloc;generalize hl:d.toList=l at N he j;rcases l with _|⟨x,_|⟨y,l⟩⟩
        ·exact .no (fun K=>N _ K L) (fun K=>N _ K z)
        ·obtain⟨φ,q1,q2,q3⟩:=hloc (ev t x) (hs h1c x (j x (by simp))).one;refine⟨φ,fun r H p m=>.inr ⟨h2c,(qo h1c).2 ⟨x,j x (by simp),by simp only[refs2,df]; exact .inl (q1 r H p m)⟩⟩,fun K=>?_,fun K=>?_⟩
         ·rw[N _ K L];exact q2 _
         ·rw[N _ K z];simp only[he];exact q3 _
        ·exact .no (fun K=>N _ K L) (fun K=>N _ K z)
       cases U:E.sort g with
       |true =>
        refine row Uz (fun S K Z=>(C S Z K).trans (hse g m U path true _ S.h _)) (by simp[cls,hc,m,U]) fun x hx1=>?_;unfold Uz
        cases x with
        |own id g =>
         have e3:=hx1 id (by simp[refs1,ŏ]);simp only[e3]
         cases lkB h id with
         |row ty g' fz xs =>
          cases fz<;>simp only
          ·split
           ·split
            ·split
             ·exact⟨some (_,[(id,_)]),by simp[refs1,ŏ],fun K=>rfl,fun K=>rfl⟩
             ·exact⟨none,by simp,fun K=>rfl,fun K=>rfl⟩
            ·exact⟨none,by simp,fun K=>rfl,fun K=>rfl⟩
           ·exact⟨none,by simp,fun K=>rfl,fun K=>rfl⟩
          ·exact⟨none,by simp,fun K=>rfl,fun K=>rfl⟩
         |_=>exact⟨none,by simp,fun K=>rfl,fun K=>rfl⟩
        |nils=>exact⟨some (_,[]),by simp,fun K=>rfl,fun K=>rfl⟩
        |_=>exact⟨none,by simp,fun K=>rfl,fun K=>rfl⟩
       |false =>
        cases hco:E.compact g with
        |true =>
         refine row qv (fun S K Z=>(C S Z K).trans (hce g m U hco path true _ S.h _)) (by simp[cls,hc,m,U,hco]) fun x hx1=>?_;unfold qv
         cases x with
         |own id g =>
          have e3:=hx1 id (by simp[refs1,ŏ]);simp only[e3]
          cases lkB h id with
          |row ty g' fz xs =>
           cases fz<;>simp only
           ·split
            ·split
             ·split
              ·exact⟨some (_,[(id,_)]),by simp[refs1,ŏ],fun K=>rfl,fun K=>rfl⟩
              ·exact⟨none,by simp,fun K=>rfl,fun K=>rfl⟩
             ·exact⟨none,by simp,fun K=>rfl,fun K=>rfl⟩
            ·exact⟨none,by simp,fun K=>rfl,fun K=>rfl⟩
           ·exact⟨none,by simp,fun K=>rfl,fun K=>rfl⟩
          |_=>exact⟨none,by simp,fun K=>rfl,fun K=>rfl⟩
         |nils=>exact⟨some (_,[]),by simp,fun K=>rfl,fun K=>rfl⟩
         |_=>exact⟨none,by simp,fun K=>rfl,fun K=>rfl⟩
        |false=>simp[cls,hc,m,U,hco] at J
      |some p =>
       have h1c:1<=cls E (.call ⟨.value (.func g),d,tys⟩):=by simp only[cls,hc,m]; cases E.fz g<;>simp
       have hsa:∀a∈d.toList.map (ev t),pu h h2 a:=fun a ha=>by
        obtain⟨x,G,rfl⟩:=dz.1 ha;exact hs h1c x (j x G)
       obtain⟨u,f1,f2,f3⟩:=V6 (cs:=(d.toList.map (ev t)).flatMap nc) hlen fun c hcm id hi=>by
        obtain⟨a,ha,A⟩:=dB.1 hcm;refine(hsa a ha).one id ?_
        cases a<;>first
         |(simp only[nc,di] at A; subst A; exact hi)
         |(simp only[nc,di] at A; subst A; cases hi; done)
         |exact dB.2 ⟨c,A,hi⟩
       have f3':∀q∈u,∃x∈d.toList,q.1∈refs2 h (ev t x):=fun q hq=>by
        obtain⟨c,hcm,hi⟩:=f3 q hq;obtain⟨a,ha,A⟩:=dB.1 hcm;obtain⟨x,G,rfl⟩:=dz.1 ha;refine⟨x,G,?_⟩;simp only[refs2,df];left;generalize ev t x=a at A
        cases a<;>first
         |(simp only[nc,di] at A; subst A; exact hi)
         |(simp only[nc,di] at A; subst A; cases hi; done)
         |exact dB.2 ⟨c,A,hi⟩
       have V:∀(b:Bool) (h':CK Blk),Fg h' p.ts (d.toList.map (ev t))=Fg h p.ts (d.toList.map (ev t))->CA h' ((d.toList.map (ev t)).flatMap nc)=aps u h'->∀(K:AV->CK Blk->BY ρ),
        UJ b p h' (d.toList.map (ev t)) K=(match Fg h p.ts (d.toList.map (ev t)) with
        |some x=>(p.F x).bind fun y=>match M6 (aao p.rs y) with
         |true=>some (aao p.rs y,[])
         |false=>match (d.toList.map (ev t)).all (fun a=>!QB a) with
          |true=>some (aao p.rs y,[])
          |false=>match b||!(d.toList.map (ev t)).all ag7 with
           |true=>none
           |false=>some (aao p.rs y,u)
        |none=>none).bind fun r=>K r.1 (aps r.2 h'):=fun b h' ha N K=>by
        unfold UJ Ã;rw[ha,N]
        cases Fg h p.ts (d.toList.map (ev t)) with
        |none=>rfl
        |some x =>
         simp only
         cases p.F x with
         |none=>rfl
         |some y =>
          simp only[eT]
          cases M6 (aao p.rs y) with
          |true=>rfl
          |false=>cases(d.toList.map (ev t)).all (fun a=>!QB a) with
           |true=>rfl
           |false=>cases b||!(d.toList.map (ev t)).all ag7<;>rfl
       refine⟨_,?_,fun K=>(C _ L K).trans ((k g p m path true _ h _).trans (V (true&&!E.fz g) h rfl f1 _)),fun K=>(C _ z K).trans (by simp only[he]; exact(k g p m path true _ h2 _).trans (V (true&&!E.fz g) h2 (Ut hsa) f2 _))⟩;intro r e q hq
       have hcase:r.2=[]\/(E.fz g=true/\r.2=u):=by
        cases hA:Fg h p.ts (d.toList.map (ev t)) with
        |none=>rw[hA] at e; cases e
        |some x =>
         rw[hA] at e;simp only at e
         cases hF:p.F x with
         |none=>rw[hF] at e; cases e
         |some y =>
          rw[hF] at e;simp only[eT] at e
          split at e
          ·cases e; exact .inl rfl
          ·split at e
           ·cases e; exact .inl rfl
           ·split at e
            ·cases e
            ·rename_i hb;cases e;simp only[eI,gK,fm] at hb;exact .inr ⟨hb.1,rfl⟩
       rcases hcase with hz|⟨hfz,hz⟩
       ·rw[hz] at hq; cases hq
       ·rw[hz] at hq;obtain⟨x,G,hi⟩:=f3' q hq;exact .inr ⟨by simp[cls,hc,m,hfz],(qo h1c).2 ⟨x,j x G,hi⟩⟩
    |tmp s =>
     rw[I] at hx hs J
     obtain⟨g,hg⟩:∃g,E.hint s=some g:=by
      cases hh:E.hint s with
      |none=>simp[cls,hh] at J
      |some g=>exact⟨g,rfl⟩
     have hpf:(E.pure g).isSome=true/\E.fz g=false:=by
      simp only[cls,hg] at J
      split at J
      ·rename_i hb; simpa using hb
      ·omega
     obtain⟨hpg,hfz⟩:=hpf;obtain⟨p,m⟩:=gZ.1 hpg
     have hcls:cls E (.call ⟨.value (.tmp s),d,tys⟩)=1:=by simp[cls,hg,m,hfz]
     have j:∀x∈d.toList,x∈(Op.call ⟨.value (.tmp s),d,tys⟩).operands.toList:=fun x G=>by simp[Op.operands,Call.operands]; exact .inr (by simpa using G)
     have hms:Operand.tmp s∈(Op.call ⟨.value (.tmp s),d,tys⟩).operands.toList:=by simp[Op.operands,Call.operands]
     have he:=Nv fun x G=>hx x (j x G)
     have W:Ui E t (.call ⟨.value (.tmp s),d,tys⟩)=true:=by
      have h1:=L;unfold nz at h1;rw[I] at h1
      have hb1:Nat.ble 1 (cls E (.call ⟨.value (.tmp s),d,tys⟩))=true:=by rw[hcls]; rfl
      simp only[hb1,cY] at h1;exact h1.2
     simp only[Ui,hg] at W
     split at W<;>try (cases W; done)
     rename_i g' T O hfn;simp only[cY,dG] at W;obtain⟨hgg,hna,hnb⟩:=W;have hgg:g'=g:=dt hgg;subst hgg;have hfn2:=(hx _ hms).trans hfn
     have C:∀(S:St),nz E S o.op=true->ev S.t (.tmp s)=.fn (.func g') T O->∀K,iE E call fid path true S nid o K=call path true g' (T++(d.toList.map (ev S.t)++O)) S.h fun v h=>K v {t:=S.t,h:=h}:=fun S Z hSf K=>by
      unfold iE;simp only[Z,Bool.not_true,Bool.and_false];rw[I];simp only[hSf,aeZ,Bool.and_false]
     rcases k with k|⟨k,hse,hce⟩
     ·exact .no (fun K=>by rw[C _ L hfn]; exact k _ _ _ _ _ _) (fun K=>by rw[C _ z hfn2]; exact k _ _ _ _ _ _)
     have hcap:∀v,(v∈T\/v∈O)->am1 v=true->pu h h2 v:=fun v hv hn id hi=>by
      refine hs (by omega) _ hms id ?_;rw[hfn]
      have e1:Go.Am.refs1 v=agA v:=by cases v<;>first|rfl|cases hn
      simp only[refs2,df,dB,e1] at hi ⊢
      have hsub:∀i,i∈agA v->i∈Go.Am.refs1 (.fn (.func g') T O):=fun i hi=>by
       simp only[Go.Am.refs1,df,dB];exact hv.imp (fun h=>⟨v,h,hi⟩) fun h=>⟨v,h,hi⟩
      rcases hi with hi|⟨i,hi,q⟩
      ·exact .inl (hsub _ hi)
      ·exact .inr ⟨i,hsub _ hi,q⟩
     have hsa:∀a∈T++(d.toList.map (ev t)++O),pu h h2 a:=fun a ha=>by
      rcases df.1 ha with ha|ha
      ·exact hcap a (.inl ha) (hna a ha)
      ·rcases df.1 ha with ha|ha
       ·obtain⟨x,G,rfl⟩:=dz.1 ha;exact hs (by omega) x (j x G)
       ·exact hcap a (.inr ha) (hnb a ha)
     have V:∀(h':CK Blk),Fg h' p.ts (T++(d.toList.map (ev t)++O))=Fg h p.ts (T++(d.toList.map (ev t)++O))->∀(K:AV->CK Blk->BY ρ),
      UJ (true&&!E.fz g') p h' (T++(d.toList.map (ev t)++O)) K=(match Fg h p.ts (T++(d.toList.map (ev t)++O)) with
      |some x=>(p.F x).bind fun y=>match M6 (aao p.rs y) with
       |true=>some (aao p.rs y,([]:CK (Nat×Blk)))
       |false=>match (T++(d.toList.map (ev t)++O)).all (fun a=>!QB a) with
        |true=>some (aao p.rs y,[])
        |false=>none
      |none=>none).bind fun r=>K r.1 (aps r.2 h'):=fun h' ha K=>by
      unfold UJ Ã;rw[ha,hfz]
      cases Fg h p.ts (T++(d.toList.map (ev t)++O)) with
      |none=>rfl
      |some x =>
       simp only
       cases p.F x with
       |none=>rfl
       |some y =>
        simp only[eT]
        cases M6 (aao p.rs y) with
        |true=>rfl
        |false=>cases(T++(d.toList.map (ev t)++O)).all (fun a=>!QB a)<;>rfl
     refine⟨_,?_,fun K=>(C _ L hfn K).trans ((k g' p m path true _ h _).trans (V h rfl _)),fun K=>(C _ z hfn2 K).trans (by simp only[he]; exact(k g' p m path true _ h2 _).trans (V h2 (Ut hsa) _))⟩;intro r e q hq;exfalso
     cases hA:Fg h p.ts (T++(d.toList.map (ev t)++O)) with
     |none=>rw[hA] at e; cases e
     |some x =>
      rw[hA] at e;simp only at e
      cases hF:p.F x with
      |none=>rw[hF] at e; cases e
      |some y =>
       rw[hF] at e;simp only[eT] at e
       split at e
       ·cases e; cases hq
       ·split at e<;>cases e
        cases hq
    |_=>rw[I] at J; simp[cls] at J
   |_=>exact I▸plain fun _ _ _ N=>by rw[I] at N; cases N
  |_=>exact I▸plain fun _ _ _ N=>by rw[I] at N; cases N
def amA {l:CK Operand} (c:∀s∈Sr l,lk t2 s=lk t s):∀x∈l,ev t2 x=ev t x:=by
 induction l with
 |nil=>intro x b; cases b
 |cons y l d =>
  intro x b;rcases dg.1 b with rfl|b
  ·cases x with
   |tmp i=>exact c i (by simp[Sr])
   |_=>rfl
  ·refine d (fun s e=>c s ?_) x b
   cases y<;>simp[Sr,e]
def ab3:∀(t:CK AV) {d c:Nat} (v b:AV),d≠c->upd (upd t d v) c b=upd (upd t c b) d v
 |[],_,_,_,_,_=>rfl
 |_::_,0,0,_,_,h=>absurd rfl h
 |_::_,0,_+1,_,_,_=>rfl
 |_::_,_+1,0,_,_,_=>rfl
 |x::t,d+1,c+1,v,b,h=>by simp only[upd]; rw[ab3 t v b (by omega)]
def W6:∀(t:CK Blk) {d c:Nat} (v b:Blk),d≠c->č (č t d v) c b=č (č t c b) d v
 |[],_,_,_,_,_=>rfl
 |_::_,0,0,_,_,h=>absurd rfl h
 |_::_,0,_+1,_,_,_=>rfl
 |_::_,_+1,0,_,_,_=>rfl
 |x::t,d+1,c+1,v,b,h=>by simp only[č]; rw[W6 t v b (by omega)]
def MT {c b:BY Nat} (hd:∀x,c=some x->b≠some x) (e d:AV):ā (ā t c e) b d=ā (ā t b d) c e:=by
 cases c with
 |none=>rfl
 |some x=>cases b with
  |none=>rfl
  |some y=>exact ab3 t e d fun h=>hd x rfl (by rw[h])
def yU {d:BY Nat} {s:Nat} (hd:d≠some s) (v:AV):lk (ā t d v) s=lk t s:=by
 cases d with
 |none=>rfl
 |some x =>
  simp only[ā,ahN];rw[if_neg];rintro⟨rfl,_⟩;exact hd rfl
def ad1:∀{u v:CK (Nat×Blk)} {h:CK Blk},(∀p∈u,∀q∈v,p.1≠q.1)->aps v (aps u h)=aps u (aps v h)
 |[],_,_,_=>rfl
 |p::u,v,h,c=>by
  show aps v (aps u (č h p.1 p.2))=aps u (č (aps v h) p.1 p.2);rw[ad1 fun q b=>c q (by simp[b])];congr 1
  have:∀(v:CK (Nat×Blk)) (h:CK Blk),(∀q∈v,p.1≠q.1)->aps v (č h p.1 p.2)=č (aps v h) p.1 p.2:=by
   intro v
   induction v with
   |nil=>intro h _; rfl
   |cons q v d =>
    intro h b;show aps v (č (č h p.1 p.2) q.1 q.2)=č (aps v (č h q.1 q.2)) p.1 p.2;rw[W6 _ _ _ (b q (by simp)),d _ fun r e=>b r (by simp[e])]
  exact this v h (c p (by simp))
def Α (all:CK Oper) (o:Oper) (t:CK AV):BY Bool :=
 match o.guard with
 |none=>some true
 |some (j,want)=>match lk t (qn all j) with
  |.bool b=>some (b==want)
  |.und=>some false
  |_=>none
def yM (E:Env ρ) (all:CK Oper) (o:Oper) (S:St):CK Nat :=
 match Α all o S.t with
 |some true=>CB E S o.op
 |_=>[]
def yD (E:Env ρ) (call:CK Nat->Bool->Nat->CK AV->CK Blk->(AV->CK Blk->BY ρ)->BY ρ) (fid:Nat) (path:CK Nat) (all:CK Oper) (b:CK Nat) (acc:CK (Nat×CK Nat)) (i nid:Nat) (o:Oper) (S:St) (K:CK Nat->St->BY ρ):BY ρ :=
 match Α all o S.t==some true&&!chk E all b acc i (CB E S o.op) with
 |true=>none
 |false=>qS E call fid path true all i nid o S (K (yM E all o S))
def agX {E:Env ρ} {call:CK Nat->Bool->Nat->CK AV->CK Blk->(AV->CK Blk->BY ρ)->BY ρ} {fid:Nat} {path:CK Nat} {all:CK Oper} {c:CK Nat} {o:Oper} {os:CK Oper} {i nid:Nat} {acc:CK (Nat×CK Nat)} {S:St} {K:St->BY ρ} :
 agY E call fid path all c (o::os) i nid acc S K=yD E call fid path all c acc i nid o S fun F m=>agY E call fid path all c os (i+1) (bif Ĕ E.clone o.op then nid+1 else nid) ((i,F)::acc) m K:=by
 have f:∀d b,lk S.t d=.bool b->({t:=upd S.t d (.bool b),h:=S.h}:St)=S:=fun d b hb=>by rw[<-hb,Fu]
 have e:∀d b,lk S.t d=.bool b->upd S.t d (.bool b)=S.t:=fun d b hb=>by rw[<-hb,Fu]
 simp only[agY,yD,qS,yM,Α]
 cases o.guard with
 |none=>cases chk E all c acc i (CB E S o.op)<;>rfl
 |some g =>
  obtain⟨j,k⟩:=g;simp only
  cases hb:lk S.t (qn all j)<;>try rfl
  rename_i b;have l:=f _ b hb;have h2:=e _ b hb
  cases b<;>cases k<;>simp only[l,h2]<;>first
   |rfl
   |(cases chk E all c acc i (CB E S o.op)<;>rfl)
def H7 {E:Env ρ} {o:Op} (f:∀x∈o.operands.toList,ev t2 x=ev t x) (i:1<=cls E o->∀x∈o.operands.toList,pu h h2 (ev t x)):CB E {t:=t2,h:=h2} o=CB E {t:=t,h:=h} o:=by
 unfold CB
 split
 ·rename_i j;have c:1<=cls E o:=eZ j
  have:∀l:CK Operand,(∀x∈l,x∈o.operands.toList)->(l.flatMap fun x=>refs2 h2 (ev t2 x))=l.flatMap fun x=>refs2 h (ev t x):=by
   intro l
   induction l with
   |nil=>intro _; rfl
   |cons x l d =>
    intro b;simp only[dA];rw[f x (b x (by simp)),(i c x (b x (by simp))).refs,d fun y e=>b y (by simp[e])]
  exact this _ fun _ h=>h
 ·rfl
def Kn {all:CK Oper} {o:Oper} (b:∀s∈i9 all o,lk t2 s=lk t s):∀x∈o.op.operands.toList,ev t2 x=ev t x:=amA fun s c=>b s (by simp only[i9,df]; exact .inr c)
def jB {all:CK Oper} {o:Oper} (c:∀s∈i9 all o,lk t2 s=lk t s):Α all o t2=Α all o t:=by
 unfold Α
 cases d:o.guard with
 |none=>rfl
 |some g =>
  obtain⟨j,b⟩:=g;simp only;rw[c _ (by simp[i9,d])]
def aj1 {E:Env ρ} {o:Op} (d:1<=cls E o) (b:nz E {t:=t,h:=h} o=true):∀id∈CB E {t:=t,h:=h} o,lkB h id≠.dead:=fun id hi hd=>by
 obtain⟨x,e,hi⟩:=(qo d).1 hi;unfold nz at b;have c:Nat.ble 1 (cls E o)=true:=Nat.ble_eq_true_of_le d;simp only[c,Bool.and_eq_true,List.all_eq_true] at b;have:=b.1 x e id hi;rw[hd] at this;cases this
def L1 {E:Env ρ} {call:CK Nat->Bool->Nat->CK AV->CK Blk->(AV->CK Blk->BY ρ)->BY ρ} {fid:Nat} {path:CK Nat} {all:CK Oper} {i nid:Nat} {o:Oper} (I:ρ)
 (A:ajO E call) (C:cls E o.op<=2) (q:h2.length=h.length) (G:∀s∈i9 all o,lk t2 s=lk t s)
 (L:Α all o t=some true->1<=cls E o.op->∀x∈o.op.operands.toList,pu h h2 (ev t x)) :
 ∃φ:BY (AV×CK (Nat×Blk)),(∀r,φ=some r->∀p∈r.2,(p.1=nid/\Ĕ E.clone o.op=true)\/(cls E o.op=2/\p.1∈yM E all o {t:=t,h:=h})) /\
  (∀r,φ=some r->∀id∈yM E all o {t:=t,h:=h},lkB h id≠.dead) /\
  (∀K,qS E call fid path true all i nid o {t:=t,h:=h} K=φ.bind fun r=>K {t:=ā t o.dst r.1,h:=aps r.2 h}) /\
  ∀K,qS E call fid path true all i nid o {t:=t2,h:=h2} K=φ.bind fun r=>K {t:=ā t2 o.dst r.1,h:=aps r.2 h2}:=by
 have J:=Kn (t:=t) (t2:=t2) (o:=o) G;have d:=jB (t:=t) (t2:=t2) (o:=o) G
 cases e:Α all o t with
 |none =>
  rw[e] at d
  have:∀(S:St),Α all o S.t=none->∀K,qS E call fid path true all i nid o S K=none:=fun S c K=>by
   unfold Α at c;unfold qS
   cases k:o.guard with
   |none=>rw[k] at c; cases c
   |some g =>
    obtain⟨j,f⟩:=g;rw[k] at c;simp only at c ⊢
    cases hb:lk S.t (qn all j)<;>rw[hb] at c<;>first|rfl|cases c
  exact⟨none,by simp,by simp,fun K=>this _ e K,fun K=>this _ d K⟩
 |some b =>
  cases b with
  |false =>
   rw[e] at d
   have:∀(S:St),Α all o S.t=some false->∀K,qS E call fid path true all i nid o S K=K {t:=ā S.t o.dst .und,h:=S.h}:=fun S c K=>by
    unfold Α at c;unfold qS
    cases k:o.guard with
    |none=>rw[k] at c; cases c
    |some g =>
     obtain⟨j,f⟩:=g;rw[k] at c;simp only at c ⊢
     cases hb:lk S.t (qn all j)<;>rw[hb] at c<;>first|rfl|(cases c; done)|skip
     simp only[Option.some.injEq] at c ⊢;rw[c]
   refine⟨some (.und,[]),?_,?_,fun K=>this _ e K,fun K=>this _ d K⟩
   ·intro r l p B;cases l;cases B
   ·intro r l id hi;simp only[yM,e] at hi;cases hi
  |true =>
   rw[e] at d
   have m:∀(S:St),Α all o S.t=some true->∀K,qS E call fid path true all i nid o S K=iE E call fid (path++[i]) true S nid o fun v S=>K {t:=ā S.t o.dst v,h:=S.h}:=fun S c K=>by
    unfold Α at c;unfold qS
    cases k:o.guard with
    |none=>rfl
    |some g =>
     obtain⟨j,f⟩:=g;rw[k] at c;simp only at c ⊢
     cases hb:lk S.t (qn all j)<;>rw[hb] at c<;>first|(cases c; done)|skip
     simp only[Option.some.injEq] at c ⊢;rw[c]
   obtain⟨φ,R,y,O⟩:=amM (fid:=fid) (path:=path++[i]) (nid:=nid) A C q J (L e)
   have u:yM E all o {t:=t,h:=h}=CB E {t:=t,h:=h} o.op:=by simp only[yM,e]
   refine⟨φ,fun r l p B=>?_,fun r l id hi=>?_,fun K=>by rw[m _ e,y],fun K=>by rw[m _ d,O]⟩
   ·rw[u]; exact R r l p B
   ·rw[u] at hi
    by_cases N:1<=cls E o.op
    ·refine aj1 N ?_ id hi
     cases z:nz E {t:=t,h:=h} o.op with
     |true=>rfl
     |false =>
      exfalso;have H:=y fun v S=>some I;rw[l] at H;simp[iE,z] at H
    ·rw[H6 (by omega)] at hi;cases hi
def AW:∀{l m:CK Nat},disj l m=true↔∀x∈l,x∉m
 |[],m=>by simp[disj]
 |x::l,m=>by
  simp only[disj,cY,eR,eh,dg,forall_eq_or_imp,AW (l:=l)];refine and_congr_left fun _=>⟨fun h c=>h x c (Nat.beq_refl x),fun h y b d=>?_⟩;have:=dt d;subst this;exact h b
structure al0 (E:Env ρ) (all:CK Oper) (bef:CK Nat) (ia ib:Nat) (a b:Oper):Prop where
 ha:all[ia]?=some a
 hb:all[ib]?=some b
 a3:cls E a.op<=2
 b3:cls E b.op<=2\/cls E a.op=0
 rb:∀s∈i9 all b,a.dst≠some s
 ra:∀s∈i9 all a,b.dst≠some s
 dd:∀x,a.dst=some x->b.dst≠some x
 bab:(bef.getD ib 0).testBit ia=false
 bba:(bef.getD ia 0).testBit ib=false
def aiG (E:Env ρ) (o:Op):cls E o<=3:=by
 cases o with
 |call c =>
  obtain⟨f,d,tys⟩:=c
  cases f with
  |value f=>cases f<;>simp only[cls]<;>(repeat' split)<;>omega
  |builtin b=>cases b<;>simp[cls]
  |_=>simp[cls]
 |_=>simp[cls]
def aby {E:Env ρ} {all:CK Oper} {c:CK Nat} {ia ib:Nat} {a b:Oper} (e:alf E all a b=false) (ha:all[ia]?=some a) (hb:all[ib]?=some b) (r:(c.getD ib 0).testBit ia=false) (h2:(c.getD ia 0).testBit ib=false):al0 E all c ia ib a b:=by
 unfold alf at e;simp only[Bool.or_eq_false_iff,beq_eq_false_iff_ne] at e;obtain⟨⟨⟨⟨_,y,i⟩,l⟩,k⟩,j⟩:=e;have v:=aiG E a.op;have u:=aiG E b.op
 have f:cls E b.op<=2\/cls E a.op=0:=by
  by_cases q:cls E b.op=3
  ·rw[q] at i;right
   by_cases p:1<=cls E a.op
   ·rw[Nat.ble_eq_true_of_le p] at i; cases i
   ·omega
  ·left; omega
 refine⟨ha,hb,by omega,f,fun s d hd=>?_,fun s d hd=>?_,fun x o m=>?_,r,h2⟩
 ·rw[hd] at l;simp[akA,d] at l
 ·rw[hd] at k;simp[akA,d] at k
 ·rw[o,m] at j;simp at j
def FG {E:Env ρ} {all:CK Oper} {c:CK Nat} {j i:Nat} {a b:Oper} {e f:CK Nat} (d:FH E all c j i e f=true) (ha:all[j]?=some a) (hb:all[i]?=some b) (l:(c.getD j 0).testBit i=false) (h2:(c.getD i 0).testBit j=false)
 (k:D5 E a.op b.op=true):∀x∈e,x∉f:=by
 unfold FH at d;simp only[ha,hb,k,l,h2,Bool.not_true,Bool.false_or] at d;exact AW.1 d
def abz {E:Env ρ} {a b:Op}:D5 E a b=D5 E b a:=by
 unfold D5; cases cls E a==2<;>cases cls E b==2<;>cases Nat.ble 1 (cls E a)<;>cases Nat.ble 1 (cls E b)<;>rfl
def aaH {E:Env ρ} {all:CK Oper} {d:CK Nat} {j i:Nat} {e f:CK Nat} (c:FH E all d j i e f=true):FH E all d i j f e=true:=by
 unfold FH at c ⊢
 cases ha:all[j]? with
 |none=>rw[ha] at c; cases c
 |some a=>cases hb:all[i]? with
  |none=>rw[ha,hb] at c; cases c
  |some b =>
   rw[ha,hb] at c;simp only[Bool.or_eq_true,eR] at c ⊢;rw[abz];rcases c with c|c|c|c
   ·exact .inl c
   ·exact .inr (.inr (.inl c))
   ·exact .inr (.inl c)
   ·exact .inr (.inr (.inr (AW.2 fun x l k=>AW.1 c x k l)))
def qO {E:Env ρ} {a b:Op}:D5 E a b=true↔(cls E a=2/\1<=cls E b)\/(1<=cls E a/\cls E b=2):=by
 unfold D5;simp only[Bool.or_eq_true,Bool.and_eq_true,beq_iff_eq,Nat.ble_eq]
def qw {E:Env ρ} {all:CK Oper} {b:CK Nat} {acc:CK (Nat×CK Nat)} {p:Nat×CK Nat} {i:Nat} {F:CK Nat}:chk E all b (p::acc) i F=(FH E all b p.1 i p.2 F&&chk E all b acc i F):=by
 simp[chk]
def Jc {E:Env ρ} {all:CK Oper} {c:CK Nat} {j i:Nat} {a b:Oper} {d:CK Nat} (ha:all[j]?=some a) (hb:all[i]?=some b):FH E all c j i d []=true:=by
 unfold FH;simp only[ha,hb,Bool.or_eq_true];exact .inr (.inr (.inr (AW.2 fun x _=>by simp)))
def PL {E:Env ρ} {all:CK Oper} {o:Oper} (c:∀s∈i9 all o,lk t2 s=lk t s) (e:Α all o t=some true->1<=cls E o.op->∀x∈o.op.operands.toList,pu h h2 (ev t x)):yM E all o {t:=t2,h:=h2}=yM E all o {t:=t,h:=h}:=by
 unfold yM;simp only[jB (t:=t) (t2:=t2) c]
 cases d:Α all o t with
 |none=>rfl
 |some b=>cases b with
  |false=>rfl
  |true=>exact H7 (Kn c) (e d)
def afi {E:Env ρ} {o:Op} (h:cls E o=0):Ĕ E.clone o=false:=by
 cases o with
 |call c =>
  obtain⟨f,d,tys⟩:=c
  cases f with
  |value f=>cases f<;>simp only[cls] at h<;>(repeat' split at h)<;>first|omega|rfl|(cases h; done)
  |builtin b=>cases b<;>simp[cls] at h
  |_=>simp[cls] at h
 |_=>first|rfl|(simp[cls] at h; done)
def aiH {E:Env ρ} {o:Op} (h:cls E o=0):TZ o=false:=by
 cases o with
 |call c =>
  obtain⟨f,b,tys⟩:=c
  cases f with
  |value f=>cases f<;>simp only[cls] at h<;>(repeat' split at h)<;>first|omega|(cases h; done)
  |_=>rfl
 |_=>rfl
def akk {E:Env ρ} {call:CK Nat->Bool->Nat->CK AV->CK Blk->(AV->CK Blk->BY ρ)->BY ρ} {fid:Nat} {path:CK Nat} {nid:Nat} {o:Oper} (d:cls E o.op=0) :
 ∃φ:BY AV,∀(t2:CK AV) (h2:CK Blk),(∀x∈o.op.operands.toList,ev t2 x=ev t x)->∀K,iE E call fid path true {t:=t2,h:=h2} nid o K=φ.bind fun v=>K v {t:=t2,h:=h2}:=by
 have b:=aiH d;have k:=afi d
 have q:∀S:St,∀K,iE E call fid path true S nid o K=opK E.P S nid false o.op K:=fun S K=>by
  have p:nz E S o.op=true:=by
   unfold nz
   have:Nat.ble 1 (cls E o.op)=false:=by rw[d]; rfl
   rw[this]
  have j:Sb E true fid o=false:=by
   unfold Sb
   cases r:o.op<;>first|rfl|(rw[r] at d; simp[cls] at d; done)
  unfold iE;simp only[p,j,Bool.not_true,Bool.and_false]
  cases i:o.op with
  |call c =>
   obtain⟨f,l,tys⟩:=c;rw[i] at b
   cases f with
   |value f=>cases b
   |_=>rfl
  |_=>rfl
 refine⟨opK E.P {t:=t,h:=[]} nid false o.op fun v _=>some v,fun t2 h2 m K=>?_⟩;rw[q,U3]
 have:=al7 (P:=E.P) (E:=E) (o:=o.op) (nid:=nid) (σ:=AV) (σ2:=AV×St) (t:=t) (t2:=t2) (h:=[]) (h2:=h2) (K:=fun v _=>some v) (K2:=fun v S=>some (v,S)) (R:=fun x y=>y=x.map fun v=>(v,({t:=t2,h:=h2}:St)))
  rfl (by omega) b m (fun u=>by omega) fun v s e=>by
   cases s with
   |none=>rfl
   |some B=>rw[k] at e; exact absurd (e rfl) (by simp)
 unfold opR;rw[this]
 cases opK E.P {t:=t,h:=[]} nid false o.op (fun v _=>some v)<;>rfl
def agi {E:Env ρ} {call:CK Nat->Bool->Nat->CK AV->CK Blk->(AV->CK Blk->BY ρ)->BY ρ} {fid:Nat} {path:CK Nat} {all:CK Oper} {i nid:Nat} {o:Oper} (m:cls E o.op=0) (t:CK AV) :
 ∃φ:BY AV,∀(t2:CK AV) (h2:CK Blk),(∀s∈i9 all o,lk t2 s=lk t s)->∀K,qS E call fid path true all i nid o {t:=t2,h:=h2} K=φ.bind fun v=>K {t:=ā t2 o.dst v,h:=h2}:=by
 obtain⟨φ,k⟩:=akk (call:=call) (fid:=fid) (path:=path++[i]) (nid:=nid) (t:=t) m
 cases l:Α all o t with
 |none =>
  refine⟨none,fun t2 h2 f K=>?_⟩;have c:=(jB (t:=t) (t2:=t2) f).trans l;unfold Α at c;unfold qS
  cases e:o.guard with
  |none=>rw[e] at c; cases c
  |some g =>
   obtain⟨j,d⟩:=g;rw[e] at c;simp only at c ⊢
   cases hb:lk t2 (qn all j)<;>rw[hb] at c<;>first|rfl|cases c
 |some b =>
  cases b with
  |false =>
   refine⟨some .und,fun t2 h2 f K=>?_⟩;have c:=(jB (t:=t) (t2:=t2) f).trans l;unfold Α at c;unfold qS
   cases e:o.guard with
   |none=>rw[e] at c; cases c
   |some g =>
    obtain⟨j,d⟩:=g;rw[e] at c;simp only at c ⊢
    cases hb:lk t2 (qn all j)<;>rw[hb] at c<;>first|rfl|(cases c; done)|skip
    simp only[Option.some.injEq] at c ⊢;rw[c];rfl
  |true =>
   refine⟨φ,fun t2 h2 f K=>?_⟩;have c:=(jB (t:=t) (t2:=t2) f).trans l;have p:=k t2 h2 (Kn f);unfold Α at c;unfold qS
   cases e:o.guard with
   |none=>exact p _
   |some g =>
    obtain⟨j,d⟩:=g;rw[e] at c;simp only at c ⊢
    cases hb:lk t2 (qn all j)<;>rw[hb] at c<;>first|(cases c; done)|skip
    simp only[Option.some.injEq] at c ⊢;rw[c];exact p _
def agx {E:Env ρ} {call:CK Nat->Bool->Nat->CK AV->CK Blk->(AV->CK Blk->BY ρ)->BY ρ} {fid:Nat} {path:CK Nat} {nid:Nat} {o:Oper} (d:cls E o.op=3) (k:∀x∈o.op.operands.toList,ev t2 x=ev t x) (K:AV->St->BY ρ) :
 iE E call fid path true {t:=t2,h:=h} nid o K=iE E call fid path true {t:=t,h:=h} nid o fun v S=>K v {t:=t2,h:=S.h}:=by
 have m:nz E {t:=t2,h:=h} o.op=nz E {t:=t,h:=h} o.op:=P6 k fun _ _ _ _ _=>rfl;unfold iE;rw[m]
 cases r:o.op with
 |call c =>
  obtain⟨f,e,tys⟩:=c;rw[r] at k d
  cases f with
  |value f =>
   have u:ev t2 f=ev t f:=k f (by simp[Op.operands,Call.operands]);have i:∀x∈e.toList,ev t2 x=ev t x:=fun x s=>k x (by simp[Op.operands,Call.operands]; exact .inr (by simpa using s));have z:=Nv i;simp only[u,z]
   cases j:ev t f with
   |fn g fa fb =>
    cases g with
    |func g =>
     simp only
     cases p:E.clone g&&aeZ f with
     |false=>rfl
     |true =>
      exfalso;rw[cY] at p
      cases f with
      |func g' =>
       have:g'=g:=by simp only[ev] at j; cases j; rfl
       subst this;simp[cls,p.1] at d
      |_=>simp[aeZ] at p
    |_=>rfl
   |yld =>
    simp only;rcases q:e.toList with _|⟨x,_|⟨y,l⟩⟩
    ·rfl
    ·simp only; rw[i x (by rw[q]; simp)]
    ·rfl
   |_=>rfl
  |builtin b=>cases b<;>simp[cls] at d
  |_=>rfl
 |_=>rw[r] at d; simp[cls] at d
def aei {E:Env ρ} {call:CK Nat->Bool->Nat->CK AV->CK Blk->(AV->CK Blk->BY ρ)->BY ρ} {fid:Nat} {path:CK Nat} {all:CK Oper} {i nid:Nat} {o:Oper} (l:cls E o.op=3) (e:∀s∈i9 all o,lk t2 s=lk t s) :
 ∃Ψ:(AV->CK Blk->BY ρ)->BY ρ,(∀K,qS E call fid path true all i nid o {t:=t,h:=h} K=Ψ fun v h'=>K {t:=ā t o.dst v,h:=h'})/\∀K,qS E call fid path true all i nid o {t:=t2,h:=h} K=Ψ fun v h'=>K {t:=ā t2 o.dst v,h:=h'}:=by
 have key:∀c:CK AV,(∀s∈i9 all o,lk c s=lk t s)->∀K,qS E call fid path true all i nid o {t:=c,h:=h} K=(fun k:AV->CK Blk->BY ρ=>match Α all o t with
  |none=>none
  |some false=>k .und h
  |some true=>iE E call fid (path++[i]) true {t:=t,h:=h} nid o fun v S=>k v S.h) fun v h'=>K {t:=ā c o.dst v,h:=h'}:=fun c e K=>by
  have f:=jB (t:=t) (t2:=c) (o:=o) e;have m:=agx (call:=call) (fid:=fid) (path:=path++[i]) (nid:=nid) (h:=h) l (Kn e);rw[<-f];unfold Α qS
  cases q:o.guard with
  |none=>exact m _
  |some g =>
   obtain⟨j,d⟩:=g;simp only
   cases hb:lk c (qn all j) with
   |bool b =>
    simp only
    cases p:b==d with
    |true=>exact m _
    |false=>rfl
   |_=>rfl
 exact⟨fun k:AV->CK Blk->BY ρ=>match Α all o t with
  |none=>none
  |some false=>k .und h
  |some true=>iE E call fid (path++[i]) true {t:=t,h:=h} nid o fun v S=>k v S.h,key t fun _ _=>rfl,key t2 e⟩
def ZE {E:Env ρ} {all:CK Oper} {o:Oper} (b:cls E o.op=0) (S:St):yM E all o S=[]:=by
 unfold yM
 split
 ·exact H6 b
 ·rfl
def swap0 {E:Env ρ} {call:CK Nat->Bool->Nat->CK AV->CK Blk->(AV->CK Blk->BY ρ)->BY ρ} {fid:Nat} {path:CK Nat} {all:CK Oper} {d:CK Nat} {acc:CK (Nat×CK Nat)} {ia na ib nb:Nat} {a b:Oper} {K:CK Nat->CK Nat->St->BY ρ} {r:ρ}
 (p:al0 E all d ia ib a b) (ha:cls E a.op=0) (hb:cls E b.op=3)
 (e:yD E call fid path all d acc ia na a {t:=t,h:=h} (fun u S=>yD E call fid path all d ((ia,u)::acc) ib nb b S (K u))=some r) :
 yD E call fid path all d acc ib nb b {t:=t,h:=h} (fun G S=>yD E call fid path all d ((ib,G)::acc) ia na a S fun u=>K u G)=some r:=by
 obtain⟨φ,m⟩:=agi (call:=call) (fid:=fid) (path:=path) (all:=all) (i:=ia) (nid:=na) ha t;unfold yD at e
 split at e<;>try (cases e; done)
 rename_i j;rw[m t h fun _ _=>rfl] at e;obtain⟨q,H,l⟩:=iR e;simp only at l
 split at l<;>try (cases l; done)
 rename_i c;have f:∀s∈i9 all b,lk (ā t a.dst q) s=lk t s:=fun s A=>yU (p.rb s A) _;obtain⟨Ψ,J,I⟩:=aei (call:=call) (fid:=fid) (path:=path) (all:=all) (i:=ib) (nid:=nb) (h:=h) hb f;rw[I] at l;have y:Α all b (ā t a.dst q)=Α all b t:=jB f;have B:CB E {t:=ā t a.dst q,h:=h} b.op=CB E {t:=t,h:=h} b.op:=H7 (Kn f) fun _ _ _ _ _=>rfl;have C:yM E all b {t:=ā t a.dst q,h:=h}=yM E all b {t:=t,h:=h}:=PL f fun _ _ _ _ _ _=>rfl;unfold yD
 split
 ·rename_i x;exfalso;rw[B,y,qw] at c
  cases N:Α all b t==some true<;>rw[N] at x c<;>simp only[Bool.false_and,eI,eR,fm,dq] at x c
  rw[x,Bool.and_false] at c;cases c
 ·rw[J];rw[<-l];congr 1;funext v h';have o:∀s∈i9 all a,lk (ā t b.dst v) s=lk t s:=fun s A=>yU (p.ra s A) _;have z:Α all a (ā t b.dst v)=Α all a t:=jB o
  have k:¬((Α all a (ā t b.dst v)==some true&&!chk E all d ((ib,yM E all b {t:=t,h:=h})::acc) ia (CB E {t:=ā t b.dst v,h:=h'} a.op))=true):=by
   rw[z,H6 ha,qw,Jc p.hb p.ha,eI];rw[H6 ha] at j;exact eM.1 j
  dsimp only
  split
  ·rename_i L; exact absurd L k
  ·rw[m _ _ o,H,eT,ZE ha,ZE ha,C,MT p.dd]
def swap {E:Env ρ} {call:CK Nat->Bool->Nat->CK AV->CK Blk->(AV->CK Blk->BY ρ)->BY ρ} {fid:Nat} {path:CK Nat} {all:CK Oper} {m:CK Nat} {acc:CK (Nat×CK Nat)} {ia na ib nb:Nat} {a b:Oper} {K:CK Nat->CK Nat->St->BY ρ} {r:ρ}
 (hpe:ajO E call) (j:al0 E all m ia ib a b) (hbd:Ĕ E.clone b.op=true->lkB h nb=.dead) (hn:Ĕ E.clone a.op=true->Ĕ E.clone b.op=true->na≠nb)
 (hfar1:Ĕ E.clone a.op=true->∀x∈b.op.operands.toList,na∉refs1 (ev t x))
 (hfar:1<=cls E b.op->Ĕ E.clone a.op=true->(∀p∈acc,∀c,all[p.1]?=some c->D5 E c.op b.op=true->(m.getD ib 0).testBit p.1=false->(m.getD p.1 0).testBit ib=false->∀x∈b.op.operands.toList,∀id∈refs1 (ev t x),id∉p.2)->∀x∈b.op.operands.toList,na∉refs2 h (ev t x))
 (e:yD E call fid path all m acc ia na a {t:=t,h:=h} (fun Fa S=>yD E call fid path all m ((ia,Fa)::acc) ib nb b S (K Fa))=some r) :
 yD E call fid path all m acc ib nb b {t:=t,h:=h} (fun Fb S=>yD E call fid path all m ((ib,Fb)::acc) ia na a S fun Fa=>K Fa Fb)=some r:=by
 by_cases hb3:cls E b.op<=2
 case neg =>
  have:=aiG E b.op;exact swap0 j (j.b3.resolve_left hb3) (by omega) e
 -- what a does
 obtain⟨φa,a0,a1,a2,_⟩:=L1 (t:=t) (t2:=t) (h:=h) (h2:=h) (call:=call) (fid:=fid) (path:=path) (i:=ia) (nid:=na) (all:=all) r hpe j.a3 rfl (fun _ _=>rfl) (fun _ _ _ _ _ _=>rfl);unfold yD at e
 split at e<;>try (cases e; done)
 rename_i L;rw[a2] at e;obtain⟨⟨va,W⟩,q1,q2⟩:=iR e;simp only at q2
 split at q2<;>try (cases q2; done)
 rename_i d;have hal1:=a1 _ q1;have hea:=a0 _ q1;simp only at hea
 -- b looks at the same
 have G:∀s∈i9 all b,lk (ā t a.dst va) s=lk t s:=fun s hs=>yU (j.rb s hs) _;have htb':∀s∈i9 all b,lk t s=lk (ā t a.dst va) s:=fun s hs=>(G s hs).symm;have O:=Kn G;have hwb:Α all b (ā t a.dst va)=Α all b t:=jB G
 have C:1<=cls E b.op->Α all b t=some true->chk E all m ((ia,yM E all a {t:=t,h:=h})::acc) ib (CB E {t:=ā t a.dst va,h:=aps W h} b.op)=true:=fun _ f=>by
  rw[hwb,f] at d;simpa using d
 have hone:Α all b t=some true->1<=cls E b.op->∀x∈b.op.operands.toList,∀id∈refs1 (ev t x),lkB (aps W h) id=lkB h id:=fun f u x z id hi=>by
  refine Uu fun p V k=>?_;rcases hea p V with⟨h2,o⟩|⟨h2,o⟩
  ·exact hfar1 o x z (by rw[<-h2,k]; exact hi)
  ·have H:=C u f;rw[qw,cY] at H;refine FG H.1 j.ha j.hb j.bba j.bab (qO.2 (.inl ⟨h2,u⟩)) p.1 o ?_;rw[k];refine(qo u).2 ⟨x,z,?_⟩;rw[O x z];simp only[refs2,df];exact .inl hi
 have hrefs:Α all b t=some true->1<=cls E b.op->∀x∈b.op.operands.toList,refs2 (aps W h) (ev t x)=refs2 h (ev t x):=fun f u x z=>by
  have:∀(l:CK Nat),(∀id∈l,lkB (aps W h) id=lkB h id)->(l.flatMap fun id=>(Qg (lkB (aps W h) id)).flatMap ŏ)=l.flatMap fun id=>(Qg (lkB h id)).flatMap ŏ:=by
   intro l
   induction l with
   |nil=>intro _; rfl
   |cons y l ih=>intro hl; simp only[dA]; rw[hl y (by simp),ih fun id hi=>hl id (by simp[hi])]
  simp only[refs2];rw[this _ (hone f u x z)]
 have I:Α all b t=some true->1<=cls E b.op->Ĕ E.clone a.op=true->∀x∈b.op.operands.toList,na∉refs2 h (ev t x):=fun f u h2=>hfar u h2 fun p V c hc1 hc2 hb1 hb2 x z id hi k=>by
  have H:=C u f;rw[qw,cY] at H;have hk2:=dG.1 H.2 p V;refine FG hk2 hc1 j.hb hb2 hb1 hc2 id k ((qo u).2 ⟨x,z,?_⟩);rw[O x z];simp only[refs2,df];exact .inl hi
 have B:Α all b t=some true->1<=cls E b.op->∀x∈b.op.operands.toList,pu h (aps W h) (ev t x):=fun f u x z id hi=>by
  refine Uu fun p V k=>?_;rcases hea p V with⟨h2,o⟩|⟨h2,o⟩
  ·exact I f u o x z (by rw[<-h2,k]; exact hi)
  ·have H:=C u f;rw[qw,cY] at H;refine FG H.1 j.ha j.hb j.bba j.bab (qO.2 (.inl ⟨h2,u⟩)) p.1 o ?_;rw[k];refine(qo u).2 ⟨x,z,?_⟩;rw[O x z,hrefs f u x z];exact hi
 -- what b does
 obtain⟨φb,b0,b1,b2,b3⟩:=L1 (t:=t) (t2:=ā t a.dst va) (h:=h) (h2:=aps W h) (call:=call) (fid:=fid) (path:=path) (i:=ib) (nid:=nb) (all:=all) r hpe hb3 (wg _ _) G B;have hfb:yM E all b {t:=ā t a.dst va,h:=aps W h}=yM E all b {t:=t,h:=h}:=PL G B;rw[b3] at q2;obtain⟨⟨vb,eb⟩,q3,q4⟩:=iR q2;simp only at q4;rw[hfb] at q4;have heb:=b0 _ q3;simp only at heb;have hfo:Α all b t=some true->CB E {t:=ā t a.dst va,h:=aps W h} b.op=CB E {t:=t,h:=h} b.op:=fun f=>H7 O (B f)
 -- a looks at the same
 have T:∀s∈i9 all a,lk (ā t b.dst vb) s=lk t s:=fun s hs=>yU (j.ra s hs) _
 have J:D5 E a.op b.op=true->∀id∈yM E all a {t:=t,h:=h},id∉yM E all b {t:=t,h:=h}:=fun hcl id hi hj=>by
  unfold yM at hj;simp only at hj
  split at hj
  ·rename_i f
   have u:1<=cls E b.op:=by rcases qO.1 hcl with h|h<;>omega
   have H:=C u f;rw[qw,cY,hfo f] at H;exact FG H.1 j.ha j.hb j.bba j.bab hcl id hi hj
  ·cases hj
 have v:Α all a t=some true->1<=cls E a.op->∀x∈a.op.operands.toList,pu h (aps eb h) (ev t x):=fun f u x z id hi=>by
  have Y:id∈yM E all a {t:=t,h:=h}:=by
   unfold yM;simp only[f];exact(qo u).2 ⟨x,z,hi⟩
  refine Uu fun p V k=>?_;rcases heb p V with⟨h2,o⟩|⟨h2,o⟩
  ·exact hal1 id Y (by rw[<-k,h2]; exact hbd o)
  ·exact J (qO.2 (.inr ⟨u,h2⟩)) id Y (k▸o)
 obtain⟨φa',a0',a1',a2',a3'⟩:=L1 (t:=t) (t2:=ā t b.dst vb) (h:=h) (h2:=aps eb h) (call:=call) (fid:=fid) (path:=path) (i:=ia) (nid:=na) (all:=all) r hpe j.a3 (wg _ _) T v;have hfa:yM E all a {t:=ā t b.dst vb,h:=aps eb h}=yM E all a {t:=t,h:=h}:=PL T v
 have o:qS E call fid path true all ia na a {t:=t,h:=h} (fun S=>K (yM E all a {t:=t,h:=h}) (yM E all b {t:=t,h:=h}) {t:=ā S.t b.dst vb,h:=aps eb S.h})=some r:=by rw[a2,q1]; exact q4
 rw[a2'] at o;obtain⟨⟨va',ea'⟩,q5,q6⟩:=iR o;simp only at q6;have Z:=a0' _ q5;simp only at Z
 have hcomm:aps eb (aps ea' h)=aps ea' (aps eb h):=ad1 fun p V q hq U=>by
  rcases Z p V with⟨h2,o⟩|⟨h2,o⟩<;>rcases heb q hq with⟨h4,N⟩|⟨h4,N⟩
  ·exact hn o N (by rw[<-h2,<-h4]; exact U)
  ·-- b would write a's new block
   have f:Α all b t=some true:=by
    unfold yM at N;simp only at N
    split at N
    ·assumption
    ·cases N
   have h5':q.1∈CB E {t:=t,h:=h} b.op:=by
    unfold yM at N;simp only[f] at N;exact N
   obtain⟨x,z,hi⟩:=(qo (by omega)).1 h5';exact I f (by omega) o x z (by rw[<-h2,U]; exact hi)
  ·exact hal1 p.1 o (by rw[U,h4]; exact hbd N)
  ·exact J (qO.2 (.inl ⟨h2,by omega⟩)) p.1 o (by rw[U]; exact N)
 rw[MT j.dd,hcomm] at q6
 -- the checks
 have chb:(Α all b t==some true&&!chk E all m acc ib (CB E {t:=t,h:=h} b.op))=false:=by
  cases f:Α all b t==some true with
  |false=>rfl
  |true =>
   have R:Α all b t=some true:=by simpa using f
   rw[hwb,f] at d;simp only[eI,fm] at d ⊢;rw[qw,cY,hfo R] at d;exact d.2
 have cha:(Α all a (ā t b.dst vb)==some true&&!chk E all m ((ib,yM E all b {t:=t,h:=h})::acc) ia (CB E {t:=ā t b.dst vb,h:=aps eb h} a.op))=false:=by
  rw[jB T]
  cases f:Α all a t==some true with
  |false=>rfl
  |true =>
   have R:Α all a t=some true:=by simpa using f
   rw[f] at L;simp only[eI,fm] at L ⊢;rw[H7 (Kn T) (v R),qw,cY];refine⟨aaH ?_,L⟩
   have hfa0:yM E all a {t:=t,h:=h}=CB E {t:=t,h:=h} a.op:=by simp only[yM,R]
   cases A:Α all b t with
   |some wb=>cases wb with
    |true =>
     rw[hwb,A] at d;simp only[beq_self_eq_true,eI,fm] at d;rw[qw,cY,hfo A,hfa0] at d;simp only[yM,A];exact d.1
    |false=>simp only[yM,A]; exact Jc j.ha j.hb
   |none=>simp only[yM,A]; exact Jc j.ha j.hb
 unfold yD;simp only[chb];rw[b2,q3];simp only[Option.bind_some,cha];rw[a3',q5];simp only[Option.bind_some];rw[hfa];exact q6
abbrev Item:=Nat×Nat×Oper
def pG (clone:Nat->Bool):CK Oper->Nat->Nat->CK Item
 |[],_,_=>[]
 |o::os,i,nid=>(i,nid,o)::pG clone os (i+1) (bif Ĕ clone o.op then nid+1 else nid)
def acg (E:Env ρ) (call:CK Nat->Bool->Nat->CK AV->CK Blk->(AV->CK Blk->BY ρ)->BY ρ) (fid:Nat) (path:CK Nat) (all:CK Oper) (b:CK Nat):CK Item->CK (Nat×CK Nat)->St->(St->BY ρ)->BY ρ
 |[],_,S,K=>K S
 |x::l,acc,S,K=>yD E call fid path all b acc x.1 x.2.1 x.2.2 S fun F S=>acg E call fid path all b l ((x.1,F)::acc) S K
def X8 {E:Env ρ} {call:CK Nat->Bool->Nat->CK AV->CK Blk->(AV->CK Blk->BY ρ)->BY ρ} {fid:Nat} {path:CK Nat} {all:CK Oper} {b:CK Nat}:∀(os:CK Oper) (i nid:Nat) (acc:CK (Nat×CK Nat)) (S:St) (K:St->BY ρ),
 agY E call fid path all b os i nid acc S K=acg E call fid path all b (pG E.clone os i nid) acc S K
 |[],_,_,_,_,_=>rfl
 |o::os,i,nid,acc,S,K=>by
  rw[agX];simp only[pG,acg];congr 1;funext F S';exact X8 os _ _ _ S' K
def ali {E:Env ρ} {all:CK Oper} {c:CK Nat} {acc b:CK (Nat×CK Nat)} {i:Nat} {F:CK Nat} (h:∀p,p∈acc↔p∈b):chk E all c acc i F=chk E all c b i F:=by
 rw[eN];simp only[chk,dG]
 exact forall_congr' fun p=>by rw[h p]
def Xr {E:Env ρ} {call:CK Nat->Bool->Nat->CK AV->CK Blk->(AV->CK Blk->BY ρ)->BY ρ} {fid:Nat} {path:CK Nat} {all:CK Oper} {c:CK Nat} {K:St->BY ρ}:∀(l:CK Item) {acc b:CK (Nat×CK Nat)} (S:St),(∀p,p∈acc↔p∈b) ->
 acg E call fid path all c l acc S K=acg E call fid path all c l b S K
 |[],_,_,_,_=>rfl
 |x::l,acc,b,S,h=>by
  simp only[acg,yD];rw[ali h]
  split
  ·rfl
  ·congr 1;funext S'
   exact Xr l S' fun p=>by simp[h p]
def amr {E:Env ρ} {call:CK Nat->Bool->Nat->CK AV->CK Blk->(AV->CK Blk->BY ρ)->BY ρ} {fid:Nat} {path:CK Nat} {all:CK Oper} {f:CK Nat} {b:Item} {rest:CK Item} {K:St->BY ρ} {r:ρ} {h0:CK Blk} {t0:CK AV}
 (v:ajO E call) :
 ∀(as:CK Item) (acc:CK (Nat×CK Nat)) (t:CK AV) (h:CK Blk),(∀a∈as,al0 E all f a.1 b.1 a.2.2 b.2.2)->(∀s∈i9 all b.2.2,lk t s=lk t0 s)->(Ĕ E.clone b.2.2.op=true->lkB h b.2.1=.dead) ->
  (∀a∈as,Ĕ E.clone a.2.2.op=true->Ĕ E.clone b.2.2.op=true->a.2.1≠b.2.1)->(∀a∈as,Ĕ E.clone a.2.2.op=true->∀x∈b.2.2.op.operands.toList,a.2.1∉refs2 h0 (ev t0 x)) ->
  (1<=cls E b.2.2.op->∀x∈b.2.2.op.operands.toList,∀id∈refs1 (ev t0 x),lkB h id=lkB h0 id\/∃p∈acc,(∃c,all[p.1]?=some c/\D5 E c.op b.2.2.op=true/\(f.getD b.1 0).testBit p.1=false/\(f.getD p.1 0).testBit b.1=false)/\id∈p.2) ->
  acg E call fid path all f (as++b::rest) acc {t:=t,h:=h} K=some r->acg E call fid path all f (b::(as++rest)) acc {t:=t,h:=h} K=some r
 |[],acc,t,h,_,_,_,_,_,_,e=>e
 |a::as,acc,t,h,L,ht,A,Y,hfar,hinv,e=>by
  have C:=L a (by simp);have m:∀x∈b.2.2.op.operands.toList,ev t x=ev t0 x:=Kn ht
  have H:Ĕ E.clone a.2.2.op=true->∀x∈b.2.2.op.operands.toList,a.2.1∉refs1 (ev t x):=fun j x k hi=>hfar a (by simp) j x k (by
   rw[m x k] at hi;simp only[refs2,df]
   exact .inl hi)
  simp only[eJ,acg] at e ⊢
  have fin:=swap (K:=fun R O S=>acg E call fid path all f (as++rest) ((b.1,O)::(a.1,R)::acc) S K) (r:=r) (t:=t) (h:=h) (acc:=acc) (ia:=a.1) (na:=a.2.1) (ib:=b.1) (nb:=b.2.1) (a:=a.2.2) (b:=b.2.2) (fid:=fid) (path:=path) v C A (Y a (by simp)) H
   (fun T j V x k=>by
    rw[m x k];have q:∀id∈refs1 (ev t0 x),lkB h id=lkB h0 id:=fun id hi=>(hinv T x k id hi).resolve_right fun⟨p,o,⟨c,c1,c2,c3,c4⟩,d⟩=>V p o c c1 c2 c3 c4 x k id (by rw[m x k]; exact hi) d
    have:refs2 h (ev t0 x)=refs2 h0 (ev t0 x):=by
     have key:∀(l:CK Nat),(∀id∈l,lkB h id=lkB h0 id)->(l.flatMap fun id=>(Qg (lkB h id)).flatMap ŏ)=l.flatMap fun id=>(Qg (lkB h0 id)).flatMap ŏ:=by
      intro l
      induction l with
      |nil=>intro _; rfl
      |cons y l ih=>intro hl; simp only[dA]; rw[hl y (by simp),ih fun id hi=>hl id (by simp[hi])]
     simp only[refs2];rw[key _ q]
    rw[this]
    exact hfar a (by simp) j x k) ?_
  ·have u:∀(R O:CK Nat) (S:St),acg E call fid path all f (as++rest) ((b.1,O)::(a.1,R)::acc) S K=acg E call fid path all f (as++rest) ((a.1,R)::(b.1,O)::acc) S K:=fun R O S=>Xr _ S fun p=>by
    simp only[dg]
    constructor<;>rintro(h|h|h)<;>simp[h]
   simp only[u] at fin;exact fin
  ·-- behind a
   obtain⟨φa,a0,a1,a2,_⟩:=L1 (t:=t) (t2:=t) (h:=h) (h2:=h) (call:=call) (fid:=fid) (path:=path) (i:=a.1) (nid:=a.2.1) (all:=all) r v C.a3 rfl (fun _ _=>rfl) (fun _ _ _ _ _ _=>rfl);unfold yD at e ⊢
   split at e<;>try (cases e; done)
   rename_i I;simp only[I];rw[a2] at e ⊢;obtain⟨⟨va,ea⟩,U,Z⟩:=iR e;rw[U];simp only[eT];have N:=a1 _ U;have z:=a0 _ U;simp only at z Z;refine amr v as _ _ _ (fun c J=>L c (by simp[J])) (fun s hs=>(yU (C.rb s hs) _).trans (ht s hs)) (fun j=>?_) (fun c J=>Y c (by simp[J])) (fun c J=>hfar c (by simp[J])) (fun T x k id hi=>?_) Z
   ·refine(Uu fun p o d=>?_).trans (A j);rcases z p o with⟨h2,B⟩|⟨h2,B⟩
    ·exact Y a (by simp) B j (h2.symm.trans d)
    ·exact N p.1 B (by rw[d]; exact A j)
   ·by_cases G:∃p∈ea,p.1=id
    ·obtain⟨p,o,d⟩:=G;rcases z p o with⟨h2,B⟩|⟨h2,B⟩
     ·exfalso;exact H B x k (by rw[m x k,<-h2,d]; exact hi)
     ·exact .inr ⟨(a.1,_),List.mem_cons_self ..,⟨a.2.2,C.ha,qO.2 (.inl ⟨h2,T⟩),C.bab,C.bba⟩,d▸B⟩
    ·have W:lkB (aps ea h) id=lkB h id:=Uu fun p o d=>G ⟨p,o,d⟩;rw[W];rcases hinv T x k id hi with h2|⟨p,o,h2⟩
     ·exact .inl h2
     ·exact .inr ⟨p,by simp[o],h2⟩
section
variable {ν:Nat->Value} {w:World}
def VR0.refs {a:AV} {v:Value} (c:VR0 ν h w a v):∀id∈ŏ a,lkB h id≠.dead:=by
 intro id hi hd
 cases a<;>simp only[ŏ,di,ip] at hi
 ·subst hi; obtain⟨_,t,g',fz,xs,b,_⟩:=c; rw[hd] at b; cases b
 ·subst hi; obtain⟨_,t,g',fz,xs,b,_⟩:=c; rw[hd] at b; cases b
 ·subst hi; obtain⟨_,t,g',fz,b,_⟩:=c; rw[hd] at b; cases b
 ·subst hi; obtain⟨_,_,b,_⟩:=c; rw[hd] at b; cases b
 ·subst hi; obtain⟨_,t,g',fz,xs,b,_⟩:=c; rw[hd] at b; cases b
def VR1.refs {a:AV} {v:Value} (b:VR1 ν h w a v):∀id∈ŏ a,lkB h id≠.dead:=by
 cases c:a.isFn with
 |true=>cases a<;>first|(cases c; done)|(intro id hi; cases hi)
 |false=>rw[yB c] at b; exact b.refs
def Ē.left_mem {α β:Type} {R:α->β->Prop}:∀{l:CK α} {m:CK β},Ē R l m->∀a∈l,∃b∈m,R a b
 |[],_,_,a,ha=>by cases ha
 |x::l,y::m,h,a,ha=>by
  rcases dg.1 ha with rfl|ha
  ·exact⟨y,by simp,h.1⟩
  ·obtain⟨b,hb,c⟩:=Ē.left_mem h.2 a ha;exact⟨b,by simp[hb],c⟩
 |_::_,[],h,_,_=>h.elim
def VR.refs1 {a:AV} {v:Value} (j:VR ν h w a v):∀id∈Go.Am.refs1 a,lkB h id≠.dead:=by
 cases d:a.isAgg with
 |true =>
  cases a<;>try cases d
  obtain⟨us,_,h2⟩:=j;intro id hi;simp only[Go.Am.refs1,dB] at hi;obtain⟨c,i,hi⟩:=hi;obtain⟨u,_,b⟩:=h2.left_mem c i;exact b.1.refs id hi
 |false =>
  cases e:a.isTup with
  |true=>cases a<;>first|(cases e; done)|(intro id hi; cases hi)
  |false =>
   have k:=j.one d e;have h2:=k.refs
   cases a with
   |fn f fa fb =>
    obtain⟨fs,cs,_,m,l⟩:=k
    have one:∀c u,VR0 ν h w c u->∀id∈agA c,lkB h id≠.dead:=fun c u b id hi=>by
     cases c with
     |agg=>exact b.elim
     |_=>exact b.refs id hi
    intro id hi;simp only[Go.Am.refs1,df,dB] at hi;rcases hi with⟨c,i,hi⟩|⟨c,i,hi⟩
    ·obtain⟨u,_,b⟩:=m.left_mem c i;exact one c u b id hi
    ·obtain⟨u,_,b⟩:=l.left_mem c i;exact one c u b id hi
   |agg=>cases d
   |_=>exact h2
def VR.refs2 (H:HR ν h w) {a:AV} {v:Value} (k:VR ν h w a v):∀id∈Go.Am.refs2 h a,lkB h id≠.dead:=by
 intro id hi;simp only[Go.Am.refs2,df,dB] at hi;rcases hi with hi|⟨j,p,c,d,hi⟩
 ·exact k.refs1 id hi
 ·have i:=H.blk j
  cases f:lkB h j with
  |cells cs =>
   rw[f] at i d;obtain⟨b,o,e,_,_,m⟩:=i;obtain⟨u,_,l⟩:=m.left_mem c d;exact l.1.refs id hi
  |_=>rw[f] at d; cases d
end
end
end Go.Am
end

noncomputable section
namespace Go.Am
variable [Ghost]
section
variable {ρ:Type} {ν:Nat->Value} {h:CK Blk} {w:World}
def ajo (acc:CK Nat) (o:Oper):Nat:=o.after.toList.foldl (fun s e=>if Region.binds .any e then s ||| 2 ^ e.on ||| acc.getD e.on 0 else s) 0
def J4:∀(os:CK Oper) (acc:CK Nat),∃l,Γ os acc=acc++l/\∀(k:Nat) (o:Oper),os[k]?=some o->(acc++l).getD (acc.length+k) 0=ajo ((acc++l).take (acc.length+k)) o
 |[],acc=>⟨[],by simp[Γ],by simp⟩
 |o::os,acc=>by
  obtain⟨l,c,h2⟩:=J4 os (acc++[ajo acc o]);refine⟨ajo acc o::l,?_,?_⟩
  ·simp only[Γ];show Γ os (acc++[ajo acc o])=_;rw[c]; simp
  ·intro k o' b
   cases k with
   |zero =>
    simp only[fS,Option.some.injEq] at b;subst b;simp[List.getD]
   |succ k =>
    have:=h2 k o' (by simpa using b);simp only[dj,List.singleton_append,cZ,dS] at this;rw[show acc.length+(k+1)=acc.length+1+k by omega];exact this
def ajn {os:CK Oper} {k:Nat} {o:Oper} (b:os[k]?=some o):(Γ os []).getD k 0=ajo ((Γ os []).take k) o:=by
 obtain⟨l,c,h2⟩:=J4 os [];rw[c];simpa using h2 k o b
def V8 {acc:CK Nat} {i:Nat}:∀(es:CK Edge) (s:Nat),(es.foldl (fun s e=>if Region.binds .any e then s ||| 2 ^ e.on ||| acc.getD e.on 0 else s) s).testBit i=true ->
 s.testBit i=true\/∃e∈es,Region.binds .any e=true/\(i=e.on\/(acc.getD e.on 0).testBit i=true)
 |[],s,h=>.inl h
 |e::es,s,h=>by
  simp only[gy] at h;rcases V8 es _ h with b|⟨d,c,b⟩
  ·split at b
   ·rename_i hb;simp only[Nat.testBit_or,Bool.or_eq_true,Nat.testBit_two_pow,decide_eq_true_eq] at b;rcases b with(b|b)|b
    ·exact .inl b
    ·exact .inr ⟨e,by simp,hb,.inl b.symm⟩
    ·exact .inr ⟨e,by simp,hb,.inr b⟩
   ·exact .inl b
  ·exact .inr ⟨d,by simp[c],b⟩
def AU {E:Env ρ} {all:CK Oper} {e:CK Nat}:∀{bs:CK Oper} {c:Nat},BV E all e bs c=true->∀(k:Nat) (b:Oper),bs[k]?=some b->∀(i:Nat) (a:Oper),i<c+k->all[i]?=some a->alf E all a b=false\/(e.getD (c+k) 0).testBit i=true
 |[],_,_,k,b,d,_,_,_,_=>by simp at d
 |x::bs,c,h,k,b,d,i,a,hi,ha=>by
  simp only[BV,cY,dG,fg] at h
  cases k with
  |zero =>
   simp only[fS,Option.some.injEq] at d;subst d;have:=h.1 i (by omega);rw[ha] at this;simp only[Bool.or_eq_true,eR] at this;simpa using this
  |succ k =>
   have:=AU h.2 k b (by simpa using d) i a (by omega) ha
   rwa [show c+1+k=c+(k+1) by omega] at this
def yk:∀{os:CK Oper} {j:Nat},Z6 os j=true->∀(k:Nat) (o:Oper),os[k]?=some o->∀e∈o.after,Region.binds .any e=true->e.on<j+k
 |[],_,_,k,o,b,_,_,_=>by simp at b
 |x::os,j,h,k,o,b,e,c,hb=>by
  simp only[Z6,cY,dG] at h
  cases k with
  |zero =>
   simp only[fS,Option.some.injEq] at b;subst b;have:=h.1 e (by simpa using c);simp only[hb,dP,Bool.false_or,decide_eq_true_eq] at this;omega
  |succ k =>
   have:=yk h.2 k o (by simpa using b) e c hb;omega
def bef_lt {os:CK Oper} (hb:Z6 os 0=true):∀(j i:Nat),((Γ os []).getD j 0).testBit i=true->i<j:=by
 intro j
 induction j using Nat.strongRecOn with
 |ind j e =>
  intro i hi
  cases d:os[j]? with
  |none =>
   obtain⟨l,k,_⟩:=J4 os []
   have c:∀(os:CK Oper) (acc:CK Nat),(Γ os acc).length=acc.length+os.length:=by
    intro os
    induction os with
    |nil=>intro acc; simp[Γ]
    |cons o os e=>intro acc; simp only[Γ]; rw[e]; simp; omega
   have:(Γ os [])[j]?=none:=by
    rw[List.getElem?_eq_none_iff] at d ⊢;rw[c]; simpa using d
   simp[List.getD,this] at hi
  |some o =>
   rw[ajn d] at hi;rcases V8 _ _ hi with m|⟨ed,k,h2,f⟩
   ·simp at m
   ·have b:=yk hb j o d ed (by simpa using k) h2;rw[dO] at b;rcases f with rfl|f
    ·exact b
    ·have:((Γ os []).getD ed.on 0).testBit i=true:=by
      rw[<-f];congr 1;simp only[List.getD,dX];rw[if_pos (by omega)]
     exact Nat.lt_trans (e ed.on b i this) b
def rU {clone:Nat->Bool}:∀{os:CK Oper} {i nid:Nat} {x:Item},x∈pG clone os i nid->∃k,os[k]?=some x.2.2/\x.1=i+k/\nid<=x.2.1/\(Ĕ clone x.2.2.op=true->x.2.1<nid+jc clone os)
 |[],_,_,_,c=>by cases c
 |o::os,i,nid,x,c=>by
  simp only[pG,dg] at c;rcases c with rfl|c
  ·exact⟨0,by simp,rfl,cX _,fun h=>by rw[oC]; simp only at h; rw[h]; simp⟩
  ·obtain⟨k,f,h2,d,e⟩:=rU c;refine⟨k+1,by simpa using f,by omega,?_,fun h=>?_⟩
   ·cases b:Ĕ clone o.op<;>rw[b] at d<;>simp at d<;>omega
   ·have:=e h;rw[oC]
    cases b:Ĕ clone o.op<;>rw[b] at this<;>simp at this ⊢<;>omega
def HQ {clone:Nat->Bool}:∀{os:CK Oper} {i nid k:Nat} {o:Oper},os[k]?=some o->∃n,(i+k,n,o)∈pG clone os i nid
 |[],_,_,k,_,h=>by simp at h
 |x::os,i,nid,0,o,h=>by
  simp only[fS,Option.some.injEq] at h;subst h;exact⟨nid,by simp[pG]⟩
 |x::os,i,nid,k+1,o,h=>by
  obtain⟨n,b⟩:=HQ (clone:=clone) (i:=i+1) (nid:=bif Ĕ clone x.op then nid+1 else nid) (os:=os) (k:=k) (o:=o) (by simpa using h);exact⟨n,by simp only[pG,dg]; right; rwa [show i+(k+1)=i+1+k by omega]⟩
def JJ {clone:Nat->Bool}:∀{os:CK Oper} {i nid:Nat},(pG clone os i nid).Pairwise fun x y=>x.1<y.1/\(Ĕ clone x.2.2.op=true->x.2.1<y.2.1)
 |[],_,_=>List.Pairwise.nil
 |o::os,i,nid=>by
  refine List.Pairwise.cons (fun y d=>?_) JJ;obtain⟨k,_,h2,c,_⟩:=rU d;refine⟨by simp only; omega,fun b=>?_⟩;simp only at b;rw[b] at c;simp at c ⊢;omega
def ae9 {l:CK Item} {p e:Item->Bool} {b:Item} (k:l.Pairwise fun x y=>x.1<y.1) (hb:b∈l) (j:p b=true) (d:∀x∈l,e x=(p x&&x.1 != b.1)) :
 ∃as rest,l.filter p=as++b::rest/\l.filter e=as++rest/\∀a∈as,a∈l/\p a=true/\a.1<b.1:=by
 obtain⟨i,f,rfl⟩:=List.append_of_mem hb;rw[fO] at k;obtain⟨_,h2,q⟩:=k;have m:∀x∈i,x.1<b.1:=fun x c=>q x c b (by simp);have o:∀x∈f,b.1<x.1:=fun x c=>(dI.1 h2).1 x c;refine⟨i.filter p,f.filter p,by simp[j],?_,fun a ha=>?_⟩
 ·have u:i.filter e=i.filter p:=List.filter_congr fun x c=>by
   rw[d x (by simp[c])]
   have:(x.1 != b.1)=true:=by have:=m x c; simp; omega
   rw[this]; simp
  have s:f.filter e=f.filter p:=List.filter_congr fun x c=>by
   rw[d x (by simp[c])]
   have:(x.1 != b.1)=true:=by have:=o x c; simp; omega
   rw[this]; simp
  have r:e b=false:=by rw[d b (by simp)]; simp
  simp[u,s,r]
 ·rw[dK] at ha;exact⟨by simp[ha.1],ha.2,m a ha.1⟩
def acr {α:Type} {R:α->α->Prop}:∀{l:CK α},l.Pairwise R->∀x∈l,∀y∈l,x=y\/R x y\/R y x
 |[],_,_,c,_,_=>by cases c
 |z::l,h,x,c,y,b=>by
  rw[dI] at h;rcases dg.1 c with c|c
  ·rcases dg.1 b with b|b
   ·exact .inl (c.trans b.symm)
   ·rw[c]; exact .inr (.inl (h.1 y b))
  ·rcases dg.1 b with b|b
   ·rw[b]; exact .inr (.inr (h.1 x c))
   ·exact acr h.2 x c y b
def ak8 {E:Env ρ} {call:CK Nat->Bool->Nat->CK AV->CK Blk->(AV->CK Blk->BY ρ)->BY ρ} {L:Nat} (hE:nt E L call) {fid:Nat} {path:CK Nat} {d:Array Oper} (hp:path.length+1=L) (hg:uu d.toList d.toList=true)
 (hd:aiq E d.toList=true) {base:Nat} {K:St->BY ρ} {r:ρ} {Q:Exit->Act->World->Prop} {m:Nat} (hmb:m<=base) :
 ∀(B:Nat) (c:Array Bool) (acc:CK (Nat×CK Nat)) (S:St) (a:Act) (ν:Nat->Value) (w:World),c.size=d.size ->
  (∀j i,c.getD j false=true->((Γ d.toList []).getD j 0).testBit i=true->c.getD i false=true) ->
  ((pG E.clone d.toList 0 base).filter fun x=>!c.getD x.1 true).length=B->Sim ν S a w ->
  (∀x∈(pG E.clone d.toList 0 base).filter fun x=>!c.getD x.1 true,Ĕ E.clone x.2.2.op=true->x.2.1<S.h.length/\lkB S.h x.2.1=.dead)->m<=S.h.length ->
  acg E call fid path d.toList (Γ d.toList []) ((pG E.clone d.toList 0 base).filter fun x=>!c.getD x.1 true) acc S K=some r ->
  (∀ν' Y a' w',Sim ν' Y a' w'->Ev m ν S.h w ν' Y.h w'->m<=Y.h.length->Dd m S.h Y.h->K Y=some r->Q .normal a' w') ->
  wpAnyIn fen 0 E.P .any d Q B c a w:=by
 simp only[aiq,cY] at hd;obtain⟨G,hdr⟩:=hd
 have A:∀{c:Array Bool} {j:Nat},c.size=d.size->j<d.size->c.getD j true=c.getD j false:=fun {c j} hs hj=>by
  have:j<c.size:=by omega
  simp[this]
 have hpw:=(JJ (clone:=E.clone) (os:=d.toList) (i:=0) (nid:=base)).imp fun {x y} h=>h.1;intro B
 induction B with
 |zero =>
  intro c acc S a ν w R hcl z H q hm e hQ;have Z:=dE.1 z;refine⟨?_,?_⟩
  ·rw[List.eq_nil_iff_forall_not_mem];intro j hj;obtain⟨h0,o,ho,_⟩:=mem_ready.1 hj;obtain⟨n,hn⟩:=HQ (clone:=E.clone) (i:=0) (nid:=base) (os:=d.toList) (k:=j) (o:=o) (by simpa using ho);have:(0+j,n,o)∈(pG E.clone d.toList 0 base).filter fun x=>!c.getD x.1 true:=dK.2 ⟨hn,by simp only[dO]; rw[h0]; rfl⟩;rw[Z] at this;cases this
  ·rw[Z] at e;exact hQ ν S a w H (Ev.refl _ _ _ _) hm (Dd.refl _ _) e
 |succ B ih =>
  intro c acc S a ν w R hcl z H q hm e hQ;refine⟨fun hr=>?_,fun j hj=>?_⟩
  ·-- the first of those that are left is ready
   exfalso
   cases f:(pG E.clone d.toList 0 base).filter fun x=>!c.getD x.1 true with
   |nil=>rw[f] at z; simp at z
   |cons x l =>
    have p:x∈(pG E.clone d.toList 0 base).filter fun x=>!c.getD x.1 true:=by rw[f]; simp
    rw[dK] at p;obtain⟨k,s,h2,_⟩:=rU p.1
    have hk:x.1=k:=by omega
    have I:x.1∈Region.ready .any d c:=mem_ready.2 ⟨by simpa using p.2,x.2.2,by rw[hk]; simpa using s,fun ed hed hb=>by
     have hlt:=yk G k x.2.2 s ed hed hb
     have hks:k<d.size:=by
      have:=(dc.1 s).1;simpa using this
     cases hl:c.getD ed.on false with
     |true=>rfl
     |false =>
      exfalso;obtain⟨o',ho'⟩:∃o',d.toList[ed.on]?=some o':=⟨_,cW (by simp; omega)⟩;obtain⟨n,hn⟩:=HQ (clone:=E.clone) (i:=0) (nid:=base) ho'
      have V:(0+ed.on,n,o')∈x::l:=by
       rw[<-f];refine dK.2 ⟨hn,?_⟩;simp only[dO];rw[A R (by omega),hl];rfl
      have hpl:(x::l).Pairwise fun x y=>x.1<y.1:=by rw[<-f]; exact hpw.filter _
      rcases dg.1 V with W|W
      ·rw[<-W] at hk; simp at hk; omega
      ·have:=(dI.1 hpl).1 _ W
       simp only at this; omega⟩
    rw[hr] at I;cases I
  ·obtain⟨h0,o,ho,hed⟩:=mem_ready.1 hj;have hjs:j<d.size:=(fD.1 ho).1
   have O:d.toList[j]?=some o:=by simpa using ho
   obtain⟨n,hn⟩:=HQ (clone:=E.clone) (i:=0) (nid:=base) O;rw[dO] at hn
   have hpp:∀x∈pG E.clone d.toList 0 base,(fun x:Item=>!(c.setIfInBounds j true).getD x.1 true) x=((fun x:Item=>!c.getD x.1 true) x&&x.1 != j):=fun x p=>by
    by_cases N:x.1=j
    ·simp only[N]
     have:j<c.size:=by omega
     simp[this]
    ·have s:(c.setIfInBounds j true).getD x.1 true=c.getD x.1 true:=getD_set_ne true (Ne.symm N)
     have h2:(x.1 != j)=true:=by simpa using N
     simp only[s,h2,Bool.and_true]
   obtain⟨as,rest,f1,f2,f3⟩:=ae9 (b:=(j,n,o)) hpw hn (by simp only[h0]; rfl) hpp
   have hbit:∀i,((Γ d.toList []).getD j 0).testBit i=true->c.getD i false=true:=fun i hi=>by
    rw[ajn O] at hi;rcases V8 _ _ hi with hz|⟨ed,s,h2,W⟩
    ·simp at hz
    ·have hl:=hed ed (by simpa using s) h2;rcases W with rfl|W
     ·exact hl
     ·refine hcl ed.on i hl ?_;have hlt:=yk G j o O ed (by simpa using s) h2;rw[<-W];congr 1;simp only[List.getD,dX];rw[if_pos (by omega)]
   have T:=JJ (clone:=E.clone) (os:=d.toList) (i:=0) (nid:=base)
   have C:((j,n,o):Item)∈(pG E.clone d.toList 0 base).filter fun x=>!c.getD x.1 true:=by rw[f1]; simp
   have hne:∀x∈(pG E.clone d.toList 0 base).filter (fun x=>!c.getD x.1 true),x≠(j,n,o)->Ĕ E.clone x.2.2.op=true->Ĕ E.clone o.op=true->x.2.1≠n:=fun x p N s h2=>by
    have hsub:((pG E.clone d.toList 0 base).filter fun x=>!c.getD x.1 true).Pairwise fun x y=>x.1<y.1/\(Ĕ E.clone x.2.2.op=true->x.2.1<y.2.1):=T.filter _;rcases acr hsub x p _ C with he|hr|hr
    ·exact absurd he N
    ·exact gF (hr.2 s)
    ·exact(gF (hr.2 h2)).symm
   rw[f1] at e
   have e':=amr (b:=(j,n,o)) (h0:=S.h) (t0:=S.t) (K:=K) (r:=r) hE.pureEq as acc S.t S.h (fun x p=>by
    obtain⟨g1,g2,g3⟩:=f3 x p;obtain⟨k,s,h2,_⟩:=rU g1
    have hk:x.1=k:=by omega
    have hkj:k<j:=by simp only at g3; omega
    have hnb:((Γ d.toList []).getD j 0).testBit k=false:=by
     cases hb:((Γ d.toList []).getD j 0).testBit k with
     |false=>rfl
     |true =>
      exfalso;have hl:=hbit k hb;simp only[eR] at g2;rw[A R (by omega),hk,hl] at g2;cases g2
    have hnb2:((Γ d.toList []).getD k 0).testBit j=false:=by
     cases hb:((Γ d.toList []).getD k 0).testBit j with
     |false=>rfl
     |true=>have:=bef_lt G k j hb; omega
    have:=AU hdr j o O k x.2.2 (by omega) s;rw[dO,hnb] at this;rw[<-hk] at s hnb hnb2
    exact aby (this.resolve_right (by simp)) s O hnb hnb2)
    (fun _ _=>rfl)
    (fun J=>(q _ C J).2)
    (fun x p s h2=>hne x (by rw[f1]; simp[p]) (fun he=>by
     have:=(f3 x p).2.2;rw[he] at this
     simp at this) s h2)
    (fun x p s y hy hmem=>VR.refs2 H.heap (Ő H y) _ hmem ((q x (by rw[f1]; simp[p]) s).2)) (fun _ _ _ _ _=>.inl rfl) e
   simp only[acg,yD] at e'
   split at e'<;>try (cases e'; done)
   refine MN hE.call hE.plain hE.clone hE.yld hg hp ho H (fun J=>q _ C J) e' fun ν' w' u v Y g1 g2 g3 g4 g5 g6 g7=>?_;have f:((pG E.clone d.toList 0 base).filter fun x=>!(c.setIfInBounds j true).getD x.1 true)=as++rest:=f2
   have V:∀x∈as++rest,x∈(pG E.clone d.toList 0 base).filter fun x=>!c.getD x.1 true:=fun x p=>by
    rw[f1]
    rcases df.1 p with p|p<;>simp[p]
   have hnj:∀x∈as++rest,x≠(j,n,o):=fun x p he=>by
    rw[<-f,dK] at p;rw[he] at p
    have hlt:j<c.size:=by omega
    simp[hlt] at p
   have hm':m<=Y.h.length:=dr hm g4;refine ih (c.setIfInBounds j true) ((j,yM E d.toList o S)::acc) {t:=ā Y.t o.dst v,h:=Y.h} _ ν' w' (by simpa using R) (fun j' i s h2=>?_) ?_ ?_ (fun x p J=>?_) hm' ?_ fun ν'' S'' a'' w'' q1 q2 q3 q4 q5=>hQ ν'' S'' a'' w'' q1 ((g3.mono hm).trans q2 (cX _)) q3 (fun i hi hdi=>q4 i hi ?_) q5
   ·by_cases hjj:j=j'
    ·subst hjj;exact getD_set_true (hbit i h2)
    ·rw[getD_set_ne false hjj] at s;exact getD_set_true (hcl j' i s h2)
   ·rw[f];rw[f1] at z;simp only[cZ,dh] at z ⊢;omega
   ·rw[g6];exact H.put g3 g2 o.dst g1
   ·rw[f] at p;obtain⟨s,h2⟩:=q x (V x p) J;refine⟨by simp only; omega,g5 _ s ?_ h2⟩
    by_cases U:Ĕ E.clone o.op=true
    ·exact .inl (hne x (V x p) (hnj x p) J U)
    ·exact .inr (by simpa using U)
   ·rw[f];exact g7
   ·refine g5 i (by omega) ?_ hdi
    by_cases U:Ĕ E.clone o.op=true
    ·left;obtain⟨k,_,_,W,_⟩:=rU hn;simp only at W;show i≠n;omega
    ·exact .inr (by simpa using U)
def nZ {E:Env ρ} (hmix:E.P.follows .mixedOrders=true) (L:Nat) (call:CK Nat->Bool->Nat->CK AV->CK Blk->(AV->CK Blk->BY ρ)->BY ρ) (C:nt E L call):wK E L call:=by
 intro fid rid path b S a K r m ν w z e H A;unfold MY at e
 split at e<;>try (cases e; done)
 rename_i s;simp only[eI,gK,fm] at s;apply wpIn_region_any hmix;have c:=fun id=>VM S.h (jc E.clone b.toList) id;have V:Sim ν {t:=S.t,h:=S.h++List.replicate (jc E.clone b.toList) .dead} a {w with drawn:=w.drawn+1}:=H.same c rfl rfl rfl rfl;have v:Ev m ν S.h w ν (S.h++List.replicate (jc E.clone b.toList) .dead) {w with drawn:=w.drawn+1}:=Ev.same (w:=w) (w':={w with drawn:=w.drawn+1}) c rfl rfl rfl rfl m
 have d:((pG E.clone b.toList 0 S.h.length).filter fun x=>!(Array.replicate b.size false).getD x.1 true)=pG E.clone b.toList 0 S.h.length:=by
  rw[gR];intro x l;obtain⟨k,p,h2,_⟩:=rU l
  have q:k<b.size:=by
   have:=(dc.1 p).1;simpa using this
  have:x.1=k:=by omega
  simp[this,q]
 have f:∀(os:CK Oper) (i nid:Nat),(pG E.clone os i nid).length=os.length:=by
  intro os
  induction os with
  |nil=>intros; rfl
  |cons o os y=>intro i nid; simp[pG,y]
 refine ak8 (fid:=fid) (base:=S.h.length) (K:=K .normal) (r:=r) C z s.2 s.1 A b.size _ [] {t:=S.t,h:=S.h++List.replicate (jc E.clone b.toList) .dead} a ν _ (by simp) (fun j i p _=>?_) ?_ V (fun x l u=>?_) ?_ ?_ fun ν' U W w' T R O N J=>⟨ν',U,T,v.trans R (cX _),O,fun j B hd=>N j B (by simp only[c]; exact hd),J⟩
 ·exfalso;rcases dk j b.size with h|h
  ·simp[h] at p
  ·simp[h] at p
 ·rw[d,f]; simp
 ·rw[d] at l;obtain⟨k,_,_,I,G⟩:=rU l;have:=G u;refine⟨by simp; omega,?_⟩;simp only[c];exact Zr _ _ I
 ·simp; omega
 ·rw[d,<-X8];exact e
end
end Go.Am
end
