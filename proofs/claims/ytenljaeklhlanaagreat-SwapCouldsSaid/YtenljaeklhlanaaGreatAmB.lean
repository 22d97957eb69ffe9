/- lemmas -/
import Derived.Test.YtenljaeklhlanaaGreatAmA
import Derived.OrdersIn
import Derived.RangeFuncSeq
import Derived.RangeFuncRecord
import Derived.LoopNIn
import Derived.RangeFuncLeaves
set_option linter.all false
noncomputable section
namespace Go.Am
variable [Ghost]
section
variable {ν ν':Nat->Value} {w w':World} {P:Program}
def afv (ν:Nat->Value) (S:St) (w:World) (r:Result Next) (v:AV) (b:St):Prop :=
 ∃ν' w' u,(r=.ok (.value u) w'\/(r=.ok .skip w'/\u=undef))/\VR ν' b.h w' v u/\HR ν' b.h w'/\Ev S.h.length ν S.h w ν' b.h w'/\b.h.length=S.h.length/\b.t=S.t
def jq.step {S:St} {x:Sem Value} {v:AV} {h':CK Blk} (hd:jq P ν S.h w x v h') :
 afv ν S w ((do let u <-x; pure (.value u):Sem Next).run P w) v {t:=S.t,h:=h'}:=by
 obtain⟨ν',w',u,e,h2,d,c,b⟩:=hd;refine⟨ν',w',u,.inl ?_,h2,d,c,b,rfl⟩;simp[e]
def afv.still {S:St} {r:Result Next} {v:AV} {u:Value} (H:HR ν S.h w) (c:r=.ok (.value u) w) (b:VR ν S.h w v u):afv ν S w r v S :=
 ⟨ν,w,u,.inl c,b,H,Ev.refl _ _ _ _,rfl,rfl⟩
def WH {S:St} {x:Sem Unit} {h':CK Blk} (hd:∃w',x.run P w=.ok () w'/\HR ν h' w'/\Ev S.h.length ν S.h w ν h' w'/\h'.length=S.h.length) :
 afv ν S w ((do x; pure .skip:Sem Next).run P w) .any {t:=S.t,h:=h'}:=by
 obtain⟨w',e,d,c,b⟩:=hd;refine⟨ν,w',undef,.inr ⟨?_,rfl⟩,trivial,d,c,b,rfl⟩;simp[e]
def ahH {a:AV} {v:Value} {h:CK Blk} (hi:isV0 a=true) (b:VR ν h w a v):VR0 ν h w a v:=by
 have d:a.isFn=false:=by cases a<;>first|rfl|cases hi
 have h2:a.isAgg=false:=by cases a<;>first|rfl|cases hi
 have c:a.isTup=false:=by cases a<;>first|rfl|cases hi
 rwa [yI c,Ba h2,yy d] at b
def ē.of_map {α β γ:Type} {R:β->γ->Prop} {f:α->β} {g:α->γ}:∀{l:CK α},(∀x∈l,R (f x) (g x))->ē R (l.map f) (l.map g)
 |[],_=>trivial
 |x::l,h=>⟨h x (by simp),ē.of_map fun y b=>h y (by simp[b])⟩
def aj0 (k:IntKind) (a b:Int):(Builtin.max2 (.int k a) (.int k b)).run P w=.ok (.int k (Qu a b)) w:=rfl
def ajZ (k:IntKind) (a b:Int):(Builtin.min2 (.int k a) (.int k b)).run P w=.ok (.int k (Z3 a b)) w:=rfl
def age {S:St} {a:Act} {x y:Operand} (h:D6 x y=true):a.eval x=a.eval y:=by
 unfold D6 at h
 split at h
 ·have:=eq_of_beq h; subst this; rfl
 ·have:=of_decide_eq_true h; subst this; rfl
 ·cases h
def iQ {α β:Type} {x:BY α} {f:α->BY β} {r:β} (h:x.bind f=some r):∃a,x=some a/\f a=some r:=by
 cases x with
 |none=>cases h
 |some a=>exact⟨a,rfl,h⟩
def arr1 {α:Type} {a:Array α} {x:α} (h:a.toList=[x]):a=#[x]:=fA (by simpa using h)
def arr2 {α:Type} {a:Array α} {x y:α} (h:a.toList=[x,y]):a=#[x,y]:=fA (by simpa using h)
def lQ {S:St} {a:Act} {o:Oper} {b:Builtin} {d:Array Operand} {tys:Array TypeId} {f:Array TypeId->TypeId->Array Value->Sem Value} (e:o.op=.call ⟨.builtin b,d,tys⟩)
 (hb:∀c vs,builtin b tys o.type c vs=(do pure (.value (<-f tys o.type vs)):Sem Next)) :
 execOp a.eval o=(do let u <-f tys o.type (d.map a.eval); pure (.value u)):=by
 unfold execOp;rw[e];simp only[resolve,pure_bind,invoke,hb]
def aj6 {S S':St} {a:Act} {o:Oper} {nid:Nat} {eat:Bool} {v:AV} {clone:Nat->Bool} (H:Sim ν S a w) (hn:ĕ clone o.op=true->nid<S.h.length/\lkB S.h nid=.dead)
 (e:opR P S nid eat o.op=some (v,S')):afv ν S w ((execOp a.eval o).run P w) v S':=by
 have I:=H.heap
 cases A:o.op with
 |move x =>
  rw[A] at e; cases e;exact afv.still I (by unfold execOp; rw[A]; rfl) (Œ H x)
 |assign x =>
  rw[A] at e; cases e;exact afv.still I (by unfold execOp; rw[A]; rfl) (Œ H x)
 |pick c x y =>
  rw[A] at e;simp only[opR,opK] at e
  split at e<;>try (cases e; done)
  rename_i b hb;have N:=Œ H c;rw[hb] at N;have N:a.eval c=.bool b:=N
  have C:(execOp a.eval o).run P w=.ok (.value (if b then a.eval x else a.eval y)) w:=by unfold execOp; rw[A]; simp[asBool,N]
  split at e
  ·cases e; exact afv.still I C (Œ H x)
  ·cases e; exact afv.still I C (Œ H y)
 |box el x =>
  rw[A] at e;simp only[opR,opK] at e
  split at e<;>try (cases e; done)
  rename_i cs O
  have C:execOp a.eval o=(do let u <-Instr.box el (a.eval x); pure (.value u)):=by unfold execOp; rw[A]
  rw[C]
  split at e
  ·split at e<;>try (cases e; done)
   split at e<;>try (cases e; done)
   rename_i y U;cases e;exact(ana I O U (Œ H x)).step
  ·cases e;obtain⟨E,h2⟩:=hn (by rw[A]; rfl);exact(box_ok I E h2 O (Œ H x)).step
 |alloc el =>
  rw[A] at e;simp only[opR,opK] at e
  split at e<;>try (cases e; done)
  rename_i z hz
  split at e<;>try (cases e; done)
  rename_i cs O;cases e;obtain⟨E,h2⟩:=hn (by rw[A]; rfl)
  have C:execOp a.eval o=(do let u <-Instr.alloc el true (.tuple #[]); pure (.value u)):=by unfold execOp; rw[A]
  rw[C];exact(alh I E h2 hz O).step
 |build t ps =>
  rw[A] at e;simp only[opR,opK] at e
  have C:execOp a.eval o=(do let u <-Instr.build t (ps.map fun(i,x)=>(i,a.eval x)); pure (.value u)):=by unfold execOp; rw[A]
  rw[C]
  split at e<;>try (cases e; done)
  ·rename_i fs K
   split at e<;>try (cases e; done)
   rename_i hfs
   split at e<;>try (cases e; done)
   rename_i z hz
   split at e<;>try (cases e; done)
   rename_i zs W
   split at e<;>try (cases e; done)
   rename_i cs O;cases e;exact(RW H K hfs hz W O).step
  ·rename_i n el K
   split at e<;>try (cases e; done)
   rename_i sz z Z hz
   split at e<;>try (cases e; done)
   rename_i zs W
   split at e<;>try (cases e; done)
   rename_i cs O;cases e;exact(aby H K Z hz W O).step
 |buildSlice t n ps =>
  rw[A] at e
  have C:execOp a.eval o=(do let u <-Instr.buildSlice t n (ps.map fun(i,x)=>(i,a.eval x)); pure (.value u)):=by unfold execOp; rw[A]
  rw[C];obtain⟨E,h2⟩:=hn (by rw[A]; rfl);simp only[opR,opK] at e
  split at e<;>try (cases e; done)
  rename_i el hel
  split at e<;>try (cases e; done)
  rename_i ty hty
  split at e<;>try (cases e; done)
  rename_i N;simp only[cY,beq_iff_eq,decide_eq_true_eq] at N
  split at e<;>try (cases e; done)
  rename_i xs hxs;cases e;exact(Wg H E h2 hel N.1 N.2.1 N.2.2 hxs).step
 |load t x =>
  rw[A] at e;simp only[opR,opK] at e;rw[vT] at e;obtain⟨R,E,h2⟩:=iQ e;cases h2
  have C:execOp a.eval o=(do let u <-Instr.loadAt t (a.eval x); pure (.value u)):=by unfold execOp; rw[A]
  rw[C];obtain⟨u,L,V⟩:=ahv I E (Œ H x);exact(jq.still I L V).step
 |store t x y =>
  rw[A] at e;simp only[opR,opK] at e
  have C:execOp a.eval o=(do Instr.storeAt t (a.eval x) (a.eval y); pure .skip):=by unfold execOp; rw[A]
  rw[C]
  split at e
  ·split at e<;>try (cases e; done)
   rename_i id g lo n hsub
   split at e<;>try (cases e; done)
   rename_i ty g' xs hl
   split at e<;>try (cases e; done)
   rename_i N;simp only[cY,beq_iff_eq,decide_eq_true_eq] at N;obtain⟨rfl,hln⟩:=N;rw[qy] at e;obtain⟨h',E,h2⟩:=iQ e;cases h2;have U:=Œ H y;rw[hsub] at U;obtain⟨ν1,v1,H1,ev1⟩:=amW I hl hln U;obtain⟨w',k1,k2,k3,k4⟩:=abZ H1 E ((Œ H x).ev ev1) v1;refine⟨ν1,w',undef,.inr ⟨?_,rfl⟩,trivial,k2,ev1.trans k3 (g8 (ã _ _ _).symm),k4.trans (ã _ _ _),rfl⟩;simp[k1]
  ·rw[qy] at e;obtain⟨h',E,h2⟩:=iQ e;cases h2;exact WH (abZ I E (Œ H x) (Œ H y))
 |nilCheck x =>
  rw[A] at e;simp only[opR,opK] at e;have G:=Œ H x
  split at e<;>try (cases e; done)
  ·rename_i id off he;cases e;rw[he] at G;have T:=G;obtain⟨cs,b,E,h2,L⟩:=T;exact afv.still I (by unfold execOp; rw[A]; simp only[L]; rfl) (L▸G)
  ·rename_i t x' off he;cases e;rw[he] at G;have T:=G;obtain⟨b,o',us,L,V⟩:=T;exact afv.still I (by unfold execOp; rw[A]; simp only[L]; rfl) (L▸G)
  ·rename_i id g i off he
   split at e<;>try (cases e; done)
   rename_i t g' fz xs hl
   split at e<;>try (cases e; done)
   rename_i hgg;cases e;rw[he] at G;have T:=G;obtain⟨ho,t2,g2,fz2,xs2,hl2,hle,hf⟩:=T;rw[hl] at hl2; cases hl2;obtain⟨_,b,o',cap,_,L⟩:=hf (eq_of_beq hgg);exact afv.still I (by unfold execOp; rw[A]; simp only[L]; rfl) (L▸G)
 |binOp op t x y yt =>
  rw[A] at e;simp only[opR,opK] at e;rw[B5] at e;obtain⟨R,E,h2⟩:=iQ e;cases h2
  have C:execOp a.eval o=(do let u <-(do eqGuard op t x y (a.eval x) (a.eval y); binOp op t (a.eval x) (a.eval y)); pure (.value u)):=by unfold execOp; rw[A]
  rw[C];exact(alb x y I E (Œ H x) (Œ H y)).step
 |unOp op t x =>
  rw[A] at e;simp only[opR,opK] at e
  have C:execOp a.eval o=(do let u <-Op.unary op (a.eval x); pure (.value u)):=by unfold execOp; rw[A]
  rw[C];have G:=Œ H x
  split at e<;>try (cases e; done)
  ·rename_i b he;cases e;rw[he] at G;exact(afW (op:=.not) I G rfl).step
  ·rename_i k n he;rw[E8] at e;obtain⟨R,E,h2⟩:=iQ e;cases h2;rw[he] at G;exact(afW (op:=.neg) I G E).step
 |convert src dst x =>
  rw[A] at e;simp only[opR,opK] at e
  have C:execOp a.eval o=(do let u <-convert src dst (a.eval x); pure (.value u)):=by unfold execOp; rw[A]
  rw[C];have G:=Œ H x
  split at e<;>try (cases e; done)
  rename_i d k k' n Z hd he;cases e;rw[he] at G;have G:a.eval x=.int k' n:=G;refine(jq.still (v:=.int k (k.wrap n)) (u:=.int k (k.wrap n)) I ?_ rfl).step;rw[G];simp only[convert,Sem.run_bind,run_underlying Z,run_underlying hd,Result.andThen_ok];simp[Conv.intToInt]
 |makeFunc fn first caps =>
  rw[A] at e;simp only[opR,opK] at e
  split at e<;>try (cases e; done)
  rename_i N;simp only[cY,dI] at N;cases e
  have C:execOp a.eval o=(do let u <-Instr.makeFunc fn (first.map a.eval) (caps.map a.eval); pure (.value u)):=by unfold execOp; rw[A]
  rw[C];refine(jq.still (v:=.fn fn (first.toList.map (ev S.t)) (caps.toList.map (ev S.t))) (u:=.func fn (first.map a.eval) (caps.map a.eval)) I rfl ⟨_,_,rfl,?_,?_⟩).step
  ·rw[gi];exact ē.of_map fun x C=>ahH (N.1 _ (List.mem_map_of_mem C)) (Œ H x)
  ·rw[gi];exact ē.of_map fun x C=>ahH (N.2 _ (List.mem_map_of_mem C)) (Œ H x)
 |makeMap t r =>
  rw[A] at e;simp only[opR,opK] at e
  split at e<;>try (cases e; done)
  rename_i kt et K
  split at e<;>try (cases e; done)
  rename_i k R hk G
  split at e<;>try (cases e; done)
  cases e;obtain⟨E,h2⟩:=hn (by rw[A]; rfl)
  have C:execOp a.eval o=(do let u <-Instr.makeMap t none; pure (.value u)):=by unfold execOp; rw[A]; rfl
  rw[C];exact(aer k R I E h2).step
 |makeSlice t l c =>
  rw[A] at e;simp only[opR,opK] at e
  split at e<;>try (cases e; done)
  rename_i k n el hsame hl hel
  split at e<;>try (cases e; done)
  rename_i ty hty
  split at e<;>try (cases e; done)
  rename_i hrow
  split at e<;>try (cases e; done)
  rename_i zs W
  split at e<;>try (cases e; done)
  rename_i z hz
  split at e<;>try (cases e; done)
  rename_i hb;simp only[cY,decide_eq_true_eq,ß] at hb;cases e;obtain⟨E,h2⟩:=hn (by rw[A]; rfl);have G:=Œ H l;rw[hl] at G;have G:a.eval l=.int k n:=G
  have N:a.eval c=.int k n:=by rw[<-age (S:=S) hsame,G]
  have C:execOp a.eval o=(do let u <-Instr.makeSlice t (.int k n) (.int k n); pure (.value u)):=by unfold execOp; rw[A]; simp only[G,N]
  rw[C];exact(X3 I E h2 hel hrow W hz hb.1 hb.2).step
 |slice t x lo hi mx =>
  rw[A] at e;simp only[opR,opK] at e
  split at e<;>try (cases e; done)
  rename_i el K
  split at e<;>try (cases e; done)
  rename_i sz Z;rw[Bg] at e;obtain⟨⟨R,h'⟩,E,h2⟩:=iQ e;cases h2
  have C:execOp a.eval o=(do let u <-Instr.sliceAt t (a.eval x) (lo.map a.eval) (hi.map a.eval) none; pure (.value u)):=by unfold execOp; rw[A]; rfl
  rw[C];refine(ajQ I K Z E (Œ H x) (fun y U=>?_) (fun U=>?_) (fun y U=>?_) (fun U=>?_)).step
  ·cases lo with
   |none=>cases U
   |some l=>cases U; exact⟨_,rfl,Œ H l⟩
  ·cases lo with
   |none=>rfl
   |some l=>cases U
  ·cases hi with
   |none=>cases U
   |some l=>cases U; exact⟨_,rfl,Œ H l⟩
  ·cases hi with
   |none=>rfl
   |some l=>cases U
 |fieldAddr t x f =>
  rw[A] at e;simp only[opR,opK] at e
  split at e<;>try (cases e; done)
  rename_i fs K
  split at e<;>try (cases e; done)
  rename_i fd hf
  split at e<;>try (cases e; done)
  rename_i n Z;rw[qA] at e;obtain⟨R,E,h2⟩:=iQ e;cases h2
  have C:execOp a.eval o=(do let u <-Instr.fieldAt t (a.eval x) f; pure (.value u)):=by unfold execOp; rw[A]
  rw[C];exact(Zp I K hf Z E (Œ H x)).step
 |field t x f =>
  rw[A] at e;simp only[opR,opK] at e;have G:=Œ H x
  split at e<;>try (cases e; done)
  rename_i fs cs K N
  split at e<;>try (cases e; done)
  rename_i fd hf
  split at e<;>try (cases e; done)
  rename_i agg n hl
  split at e<;>try (cases e; done)
  rename_i ds hg
  split at e<;>try (cases e; done)
  rename_i R hm;cases e;rw[N] at G
  have C:execOp a.eval o=(do let u <-Instr.field t (a.eval x) f; pure (.value u)):=by unfold execOp; rw[A]
  rw[C];exact(akC I K hf hl hg hm G).step
 |indexAddr t x i =>
  rw[A] at e;simp only[opR,opK] at e
  have C:execOp a.eval o=(do let u <-Instr.indexAt t (a.eval x) (a.eval i); pure (.value u)):=by unfold execOp; rw[A]
  rw[C]
  split at e<;>try (cases e; done)
  ·rename_i el K
   split at e<;>try (cases e; done)
   rename_i sz Z;rw[qH] at e;obtain⟨R,E,h2⟩:=iQ e;cases h2;exact(akt I K Z E (Œ H x) (Œ H i)).step
  ·rename_i n el K;have G:=Œ H x;have hi:=Œ H i
   split at e<;>try (cases e; done)
   rename_i id off k j hx' hi'
   split at e<;>try (cases e; done)
   rename_i sz Z;rw[ji] at e;obtain⟨q,E,h2⟩:=iQ e;obtain⟨rfl,_,hb⟩:=IP E;cases h2;rw[hx'] at G;rw[hi'] at hi;have hi:a.eval i=.int k (q:Int):=hi;rw[hi];have:=(Pr I K (j:=(q:Int)) (k:=k) ⟨by omega,by omega⟩ Z G).step;simpa using this
 |index t x i =>
  rw[A] at e;simp only[opR,opK] at e
  have C:execOp a.eval o=(do let u <-Instr.index t (a.eval x) (a.eval i); pure (.value u)):=by unfold execOp; rw[A]
  rw[C];have G:=Œ H x;have hi:=Œ H i
  split at e<;>try (cases e; done)
  rename_i n el cs k j K hx' hi';rw[ji] at e;obtain⟨q,E,h2⟩:=iQ e;obtain⟨rfl,_,hb⟩:=IP E
  split at h2<;>try (cases h2; done)
  rename_i agg m hl
  split at h2<;>try (cases h2; done)
  rename_i ds hg
  split at h2<;>try (cases h2; done)
  rename_i R hm;cases h2;rw[hx'] at G;rw[hi'] at hi;have hi:a.eval i=.int k (q:Int):=hi;rw[hi];exact(aaV I K (j:=(q:Int)) (k:=k) ⟨by omega,by omega⟩ hl (by simpa using hg) hm G).step
 |lookup t m i ok =>
  rw[A] at e;simp only[opR,opK] at e;rw[nH] at e;obtain⟨R,E,h2⟩:=iQ e;cases h2
  have C:execOp a.eval o=(do let u <-Instr.lookup t (a.eval m) (a.eval i) ok; pure (.value u)):=by unfold execOp; rw[A]
  rw[C];exact(aho I E (Œ H m) (Œ H i)).step
 |mapUpdate t m i x =>
  rw[A] at e;simp only[opR,opK] at e;rw[nZ] at e;obtain⟨h',E,h2⟩:=iQ e;cases h2
  have C:execOp a.eval o=(do Instr.mapUpdate t (a.eval m) (a.eval i) (a.eval x); pure .skip):=by unfold execOp; rw[A]
  rw[C];exact WH (XZ I E (Œ H m) (Œ H i) (Œ H x))
 |extract x i =>
  rw[A] at e;simp only[opR,opK] at e;have G:=Œ H x
  split at e<;>try (cases e; done)
  rename_i vs hvs
  split at e<;>try (cases e; done)
  rename_i R T;cases e;rw[hvs] at G;obtain⟨us,hu,h2⟩:=G;obtain⟨u,L,V⟩:=h2.get T;refine afv.still I (u:=u) (by unfold execOp; rw[A]; simp only[hu]; simp at L; simp[Instr.extract,L]) ?_
  cases K:v.isTup with
  |true =>
   cases v<;>try cases K
   exact V.elim
  |false=>rw[yI K]; exact V
 |call c =>
  obtain⟨f,args,tys⟩:=c;rw[A] at e
  cases f with
  |value f=>cases e
  |invoke r n=>cases e
  |builtin b =>
   simp only[opR,opK] at e
   split at e
   ·-- len
    rename_i x t rest B J;rw[Bu] at e;obtain⟨R,E,h2⟩:=iQ e;cases h2;rw[lQ (S:=S) (f:=Builtin.len_) A (fun _ _=>rfl),arr1 B,show Array.map a.eval #[x]=#[a.eval x] by simp]
    have Y:tys[0]?=some t:=by rw[<-gC,J]; rfl
    exact(len_ok I E (Œ H x) Y).step
   ·rename_i s x t t' B J;obtain⟨E,h2⟩:=hn (by rw[A]; rfl);rw[lQ (S:=S) (f:=Builtin.append_) A (fun _ _=>rfl),arr2 B,arr2 J,show Array.map a.eval #[s,x]=#[a.eval s,a.eval x] by simp]
    split at e
    ·rename_i htt;have htt:=eq_of_beq htt;subst htt;rw[yc] at e;obtain⟨⟨R,h'⟩,L,V⟩:=iQ e;cases V;exact(aji I E h2 L (Œ H s) (Œ H x)).step
    ·split at e<;>try (cases e; done)
     rename_i hu;rw[Bc] at e;obtain⟨⟨R,h'⟩,L,V⟩:=iQ e;cases V;exact(ajH I E h2 hu L (Œ H s) (Œ H x)).step
   ·rename_i x t B J
    split at e<;>try (cases e; done)
    rename_i d hd;rw[BW] at e;obtain⟨h',E,h2⟩:=iQ e;cases h2;rw[lQ (S:=S) (f:=Builtin.clear_) A (fun _ _=>rfl),arr1 B,show Array.map a.eval #[x]=#[a.eval x] by simp]
    have Y:tys[0]?=some t:=by rw[<-gC,J]; rfl
    exact(akN Y I E (by rw[hd]; rfl) (Œ H x)).step
   ·rename_i x t rest B J
    split at e<;>try (cases e; done)
    rename_i el K C;cases e;have G:=Œ H x;rw[C] at G;have G:a.eval x=.slice none 0 0:=G;rw[lQ (S:=S) (f:=Builtin.cap_) A (fun _ _=>rfl),arr1 B]
    have Y:tys[0]?=some t:=by rw[<-gC,J]; rfl
    exact(jq.still (v:=.int .i64 0) (u:=.int .i64 0) I (by simp[Builtin.cap_,Y,G,run_underlying K,goInt]) rfl).step
   ·rename_i x xs B;rw[i6] at e;obtain⟨R,E,h2⟩:=iQ e;cases h2;rw[lQ (S:=S) (f:=Builtin.min_) A (fun _ _=>rfl)];obtain⟨u,L,V⟩:=Nj (P:=P) (f:=Builtin.min2) (gt:=false) (fun k p q=>ajZ k p q) (xs.map (ev S.t)) (xs.map a.eval) _ v (a.eval x) E (Œ H x) (ē.of_map fun y _=>Œ H y);refine(jq.still I ?_ V).step;simp only[Builtin.min_,gi,B,eX];exact L
   ·rename_i x xs B;rw[i6] at e;obtain⟨R,E,h2⟩:=iQ e;cases h2;rw[lQ (S:=S) (f:=Builtin.max_) A (fun _ _=>rfl)];obtain⟨u,L,V⟩:=Nj (P:=P) (f:=Builtin.max2) (gt:=true) (fun k p q=>aj0 k p q) (xs.map (ev S.t)) (xs.map a.eval) _ v (a.eval x) E (Œ H x) (ē.of_map fun y _=>Œ H y);refine(jq.still I ?_ V).step;simp only[Builtin.max_,gi,B,eX];exact L
   ·cases e
 |_=>rw[A] at e; cases e
end
end Go.Am
end

noncomputable section
namespace Go.Am
variable [Ghost]
def Ŵ (nid:Nat) (h h':CK Blk):Prop:=∀j,j≠nid->lkB h j=.dead->lkB h' j=.dead
def Ŵ.refl (nid:Nat) (h:CK Blk):Ŵ nid h h:=fun _ _ hd=>hd
def Ŵ.upd {nid id:Nat} {h:CK Blk} (B:Blk) (b:id=nid\/lkB h id≠.dead):Ŵ nid h (č h id B):=fun j c hd=>by
 rw[Ö]
 ·exact hd
 ·rintro rfl;rcases b with rfl|b
  ·exact c rfl
  ·exact b hd
def Ŵ.trans {nid:Nat} {h h' b:CK Blk} (d:Ŵ nid h h') (h2:Ŵ nid h' b):Ŵ nid h b:=fun j c hd=>h2 j c (d j c hd)
def Ŵ.frz {nid:Nat} {h:CK Blk} (v:AV):Ŵ nid h (frz h v):=fun _ _ hd=>adh hd
def Ŵ.frzA {nid:Nat} {h:CK Blk} (ps:CK (Nat×AV)):Ŵ nid h (frzA h ps):=fun _ _ hd=>Pw ps hd
def Ef {h:CK Blk} {id:Nat} {B:Blk} (b:lkB h id=B) (c:B≠.dead):lkB h id≠.dead:=by rw[b]; exact c
def amM {v:AV} {id:Nat} {h:CK Blk} {k u:Ty} {es:CK (Val k×Val u)} (b:lkB h id=.map k u es):lkB (frz h v) id=.map k u es:=by
 unfold frz; split
 ·exact VI _ b
 ·exact adk b
def Sa {P:Program} {h h':CK Blk} {t:TypeId} {a v:AV} {nid:Nat} (b:ye P h t a v some=some h'):Ŵ nid h h':=by
 unfold ye at b
 (repeat' split at b)<;>first
  |(cases b; done)
  |(cases b; exact Ŵ.upd _ (.inr (Ef ‹lkB h _=.cells _› (by simp))))
  |(cases b; exact(Ŵ.frz _).trans (Ŵ.upd _ (.inr (Ef ‹lkB (frz h _) _=.row _ _ _ _› (by simp)))))
def agJ {P:Program} {S d:St} {o:Op} {nid:Nat} {eat:Bool} {v:AV} (e:opR P S nid eat o=some (v,d)):Ŵ nid S.h d.h:=by
 unfold opR opK at e;dsimp only at e
 (repeat' split at e)<;>first
  |(cases e; done)
  |(cases e; exact Ŵ.refl _ _)
  |(cases e; exact Ŵ.upd _ (.inl rfl))
  |(cases e; exact(Ŵ.frzA _).trans (Ŵ.upd _ (.inl rfl)))
  |(rw[vT] at e; obtain⟨c,b,h2⟩:=iQ e; cases h2; exact Ŵ.refl _ _)
  |(rw[B5] at e; obtain⟨c,b,h2⟩:=iQ e; cases h2; exact Ŵ.refl _ _)
  |(rw[E8] at e; obtain⟨c,b,h2⟩:=iQ e; cases h2; exact Ŵ.refl _ _)
  |(rw[qA] at e; obtain⟨c,b,h2⟩:=iQ e; cases h2; exact Ŵ.refl _ _)
  |(rw[qH] at e; obtain⟨c,b,h2⟩:=iQ e; cases h2; exact Ŵ.refl _ _)
  |(rw[nH] at e; obtain⟨c,b,h2⟩:=iQ e; cases h2; exact Ŵ.refl _ _)
  |(rw[Bu] at e; obtain⟨c,b,h2⟩:=iQ e; cases h2; exact Ŵ.refl _ _)
  |(rw[i6] at e; obtain⟨c,b,h2⟩:=iQ e; cases h2; exact Ŵ.refl _ _)
  |(rw[qy] at e; obtain⟨h',b,h2⟩:=iQ e; cases h2; exact Sa b)
  | (rw [qy] at e; obtain ⟨h', b, h2⟩ := iQ e; cases h2
     exact(Ŵ.upd _ (.inr (Ef ‹lkB S.h _=.row _ _ _ _› (by simp)))).trans (Sa b))
  | (rw [Bg] at e; obtain ⟨⟨c, h'⟩, b, h2⟩ := iQ e; cases h2
     unfold sI at b
     (repeat' split at b)<;>first
      |(cases b; done)
      |(cases b; exact Ŵ.refl _ _)
      |(cases b; exact Ŵ.upd _ (.inr (Ef ‹lkB S.h _=.row _ _ _ _› (by simp)))))
  | (rw [yc] at e; obtain ⟨⟨c, h'⟩, b, h2⟩ := iQ e; cases h2
     unfold A8 at b
     (repeat' split at b)<;>first
      |(cases b; done)
      |(cases b; exact Ŵ.upd _ (.inl rfl))
      |(cases b; exact Ŵ.upd _ (.inr (Ef ‹lkB S.h _=.row _ _ _ _› (by simp)))))
  | (rw [Bc] at e; obtain ⟨⟨c, h'⟩, b, h2⟩ := iQ e; cases h2
     unfold J2 at b
     (repeat' split at b)<;>first
      |(cases b; done)
      |(cases b; exact Ŵ.upd _ (.inl rfl)))
  | (rw [BW] at e; obtain ⟨h', b, h2⟩ := iQ e; cases h2
     unfold KD at b
     (repeat' split at b)<;>first
      |(cases b; done)
      |(cases b; exact Ŵ.refl _ _)
      |(cases b; exact Ŵ.upd _ (.inr (Ef ‹lkB S.h _=.row _ _ _ _› (by simp)))))
  | (rw [ji] at e; obtain ⟨q, b, h2⟩ := iQ e
     (repeat' split at h2)<;>first
      |(cases h2; done)
      |(cases h2; exact Ŵ.refl _ _))
  | (rw [nZ] at e; obtain ⟨h', b, h2⟩ := iQ e; cases h2
     unfold l5 at b
     (repeat' split at b)<;>first
      |(cases b; done)
      |(cases b; exact(Ŵ.frz _).trans (Ŵ.upd _ (.inr (Ef (amM ‹lkB S.h _=.map _ _ _›) (by simp))))))
end Go.Am
end

noncomputable section
namespace Go.Am
variable [Ghost]
section
variable {ρ:Type} {ν ν':Nat->Value} {h h':CK Blk} {w w':World} {P:Program}
def Ev.same (d:∀id,lkB h' id=lkB h id) (c:w'.heap=w.heap) (j:w'.os=w.os) (h2:w'.tape=w.tape) (i:w'.output=w.output) (m:Nat):Ev m ν h w ν h' w' :=
 ⟨j,h2,i,by rw[c]; exact cZ _,fun b _ hb=>⟨by rw[c],fun⟨id,f,e⟩=>hb ⟨id,by rwa [d] at f,e⟩⟩,fun id _=>by rw[d]; exact Blk.next_refl _ _ _⟩
def HR.same (H:HR ν h w) (c:∀id,lkB h' id=lkB h id) (d:w'.heap=w.heap) (l:w'.os=w.os) (h2:w'.tape=w.tape) (k:w'.output=w.output):HR ν h' w':=by
 refine⟨fun id=>?_,fun i j b e f=>H.inj i j b (by rwa [c] at e) (by rwa [c] at f),fun b hb=>by rw[d]; exact H.ghlt b hb,fun id b e=>H.ghne id b (by rwa [c] at e)⟩;rw[c];exact BR.ev (Ev.same c d l h2 k _) (fun b o hb _=>by rw[d]; exact hb) rfl (fun b _ _ _=>by rw[d]) (H.blk id)
def Sim.same {S:St} {a:Act} (H:Sim ν S a w) (d:∀id,lkB h' id=lkB S.h id) (c:w'.heap=w.heap) (f:w'.os=w.os) (h2:w'.tape=w.tape) (e:w'.output=w.output):Sim ν {t:=S.t,h:=h'} a w' :=
 ⟨H.defers.keep (by rw[c]; exact cZ _) (fun b o hb _=>by rw[c]; exact hb),H.len,fun i=>(H.tmps i).ev (Ev.same d c f h2 e _),H.heap.same d c f h2 e⟩
def Y7:∀(h:CK Blk) (d:Nat),h.length<=d->lkB h d=.dead
 |[],_,_=>rfl
 |x::xs,0,h=>by simp at h
 |x::xs,d+1,h=>by simpa[lkB] using Y7 xs d (by simpa using h)
def Vw:∀(h:CK Blk) (n id:Nat),lkB (h++List.replicate n .dead) id=lkB h id
 |[],0,_=>rfl
 |[],n+1,0=>rfl
 |[],n+1,id+1=>by simpa[fT,lkB] using Vw [] n id
 |x::xs,n,0=>rfl
 |x::xs,n,id+1=>by simpa[lkB] using Vw xs n id
abbrev fen:Fence:={Fence.wide with round:=Ghost.Q}
def adX (P:Program) (L:Nat) (call:CK Nat->Bool->Nat->CK AV->CK Blk->(AV->CK Blk->BY ρ)->BY ρ):Prop :=
 ∀path d g b h (K:AV->CK Blk->BY ρ) r,path.length=L->call path d g b h K=some r->∀ν w vals,HR ν h w->Ghost.B<=w.heap.size->ē (VR ν h w) b vals ->
  (∃fn c,P.funcs[g]?=some fn/\fn.body=some c) /\
  CallsIn Fence.wide 0 P g vals.toArray w fun e w'=>∃ν' h' v u,e=.returned u/\VR ν' h' w' v u/\HR ν' h' w'/\Ev h.length ν h w ν' h' w'/\h.length<=h'.length/\(∀j,j<h.length->lkB h j=.dead->lkB h' j=.dead)/\K v h'=some r
def J1 (P:Program) (clone:Nat->Bool):Prop :=
 ∀g,clone g=true->∀fz S nid x v b,AX P g fz S nid x (fun v S=>some (v,S))=some (v,b)->∀ν w u,HR ν S.h w->VR ν S.h w x u->nid<S.h.length->lkB S.h nid=.dead ->
  (∃fn c,P.funcs[g]?=some fn/\fn.body=some c) /\
  CallsIn Fence.wide 0 P g #[u] w fun e w'=>∃ν' u',e=.returned u'/\VR ν' b.h w' v u'/\HR ν' b.h w'/\Ev S.h.length ν S.h w ν' b.h w'/\S.h.length<=b.h.length/\Ŵ nid S.h b.h/\b.t=S.t
def JP (P:Program) (g:Nat) (fz:Bool) (S:St) (nid:Nat) (x:AV) (K:AV->St->BY ρ):AX P g fz S nid x K=(AX P g fz S nid x fun v S=>some (v,S)).bind fun r=>K r.1 r.2:=by
 unfold AX; (repeat' split)<;>rfl
def Aft (m:Nat) (ν:Nat->Value) (h:CK Blk) (w:World) (K:St->BY ρ) (r:ρ) (c:Act) (w':World):Prop :=
 ∃ν' b,Sim ν' b c w'/\Ev m ν h w ν' b.h w'/\h.length<=b.h.length/\K b=some r
def Aft.trans {m f:Nat} {K:St->BY ρ} {r:ρ} {i:Act} {ν b:Nat->Value} {h c:CK Blk} {w d w':World} (e:Ev m ν h w b c d) (k:h.length<=c.length) (j:m<=f) (ha:Aft f b c d K r i w'):Aft m ν h w K r i w':=by
 obtain⟨ν',q,p,h2,o,l⟩:=ha;exact⟨ν',q,p,e.trans h2 j,dw k o,l⟩
def op_nid {S:St} {o:Op} {nid nid':Nat} {eat:Bool} {clone:Nat->Bool} (d:ĕ clone o=false):opR P S nid eat o=opR P S nid' eat o:=by
 cases o<;>try first|rfl|(cases d; done)
 rename_i c;obtain⟨f,e,tys⟩:=c
 cases f<;>try rfl
 rename_i b
 cases b<;>first|(cases d; done)|rfl|(unfold opR opK; dsimp only; (repeat' split)<;>first|rfl|simp_all)
def YldP (P:Program) (y:YFun):Prop:=∃f:y.ty=Ghost.T,∀(O X:Nat->Prop) (c:CK (Val Ghost.T)) (v:Val Ghost.T) (u:Value) (W:World),Ghost.J O X c W->(∀b,O b->X b)->(∀b,X b->b<W.heap.size)->(c++[v] <+: AZ (F:=fun t=>CK (Val t)) f y.all)->CR W X Ghost.T v [u]->Ghost.B<=W.heap.size ->
 YieldAt Fence.wide 0 P Ghost.L #[u] W fun e d=>e=.returned (.bool true)/\d.os=W.os/\d.tape=W.tape/\d.output=W.output/\W.heap.size<=d.heap.size /\
  ∃us,(∀b,b<W.heap.size->¬O b->d.heap[b]?=W.heap[b]?/\¬Ŝ (.agg us) b)/\(∀b,Ŝ (.agg us) b->∃o,d.heap[b]?=some o/\SI o=true)/\Ghost.J (Ŝ (.agg us)) (fun b=>(X b/\¬O b)\/Ŝ (.agg us) b) (c++[v]) d
def lz (E:Env ρ):Prop:=∀y,E.yld=some y->YldP E.P y
def iV {E:Env ρ} (h:E.yld=none):lz E:=fun y e=>by rw[h] at e; cases e
def al6 {α:Type} {all l:CK α} {k:BY ρ} {r:ρ} (h:yg all l k=some r):l <+: all/\k=some r:=by
 unfold yg at h
 split at h
 ·exact⟨‹_›,h⟩
 ·cases h
def ad0 {t:Ty} (b:t.isAgg=false) {a:AV} {v:Val t} (e:Ü t [a]=some v):a.isAgg=false/\a.isTup=false:=by
 cases t<;>first|(cases b; done)|(cases a<;>first|exact⟨rfl,rfl⟩|cases e)
def aaa (h:CK Blk) {a:AV} (e:(ā h a).isAgg=false/\(ā h a).isTup=false):a.isAgg=false/\a.isTup=false:=by
 cases a<;>first|exact⟨rfl,rfl⟩|exact e
def afK {E:Env ρ} (hy:lz E) {x:AV} {u:Value} {K:AV->CK Blk->BY ρ} {r:ρ} (H:HR ν h w) (hv:VR ν h w x u) (hB:Ghost.B<=w.heap.size) (e:yldK E h x K=some r) :
 YieldAt Fence.wide 0 E.P Ghost.L #[u] w fun e w'=>e=.returned (.bool true)/\∃ν' h',HR ν' h' w'/\Ev h.length ν h w ν' h' w'/\h'.length=h.length/\(∀j,lkB h j=.dead->lkB h' j=.dead)/\K (.bool true) h'=some r:=by
 unfold yldK at e
 split at e<;>try (cases e; done)
 rename_i y hE
 split at e<;>try (cases e; done)
 rename_i W
 split at e<;>try (cases e; done)
 rename_i N
 split at e<;>try (cases e; done)
 rename_i v l
 split at e<;>try (cases e; done)
 rename_i t xs f
 split at e<;>try (cases e; done)
 rename_i he hq;clear hq;obtain⟨ty,all⟩:=y;obtain⟨hT,hY⟩:=hy _ hE;have S:t=ty:=he;subst S;have Y:t=Ghost.T:=hT;subst Y;obtain⟨p,hk⟩:=al6 e;obtain⟨I,G⟩:=aaa h (ad0 W l);have J:=hv.one I G;obtain⟨Z,k,_⟩:=Py H x;have U:CR w (Av ν (si h x)) Ghost.T v [u]:=Ģ l ⟨Px H J N,trivial⟩;have hb:=k.blk 0;rw[f] at hb;obtain⟨us0,h1,h2,h3,h4⟩:=hb;obtain⟨fn,tmps,assign,C,m,hR⟩:=hY _ _ xs v u w h4 (fun b hb=>.inl ⟨0,by rw[f]; rfl,hb⟩) (fun b hb=>k.ltA hb) p U hB;refine⟨fn,tmps,assign,C,m,hR.mono fun e' w' hw=>?_⟩;obtain⟨rfl,o1,o2,o3,o4,us,o5,o6,o7⟩:=hw;refine⟨rfl,?_⟩
 have c:(lkB (si h x) 0).live=true:=by rw[f]; rfl
 have z:0<(si h x).length:=kH f (by simp);have d:∀b,b<w.heap.size->((lkB (si h x) 0).live=true->¬Ŝ (ν 0) b)->w'.heap[b]?=w.heap[b]?:=fun b hb s=>(o5 b hb (s c)).1
 have hV:(Blk.acc Ghost.T (xs++[v])).live=true->∀b,Ŝ (.agg us) b->((lkB (si h x) 0).live=true/\Ŝ (ν 0) b)\/w.heap.size<=b:=fun _ b hb=>by
  rcases dq b w.heap.size with O|R
  ·by_cases ho:Ŝ (ν 0) b
   ·exact .inl ⟨c,ho⟩
   ·exact absurd hb (o5 b O ho).2
  ·exact .inr R
 have A:=Ev.upd k (B:=.acc Ghost.T (xs++[v])) (V:=.agg us) z o1 o2 o3 o4 d hV (by rw[f]; exact⟨_,rfl⟩)
 have H2:HR (Č ν 0 (.agg us)) (č (si h x) 0 (.acc Ghost.T (xs++[v]))) w':=by
  refine HR.upd k z A d hV ⟨us,Þ _ _ _,?_,rfl,?_⟩
  ·rw[Þ]; exact o6
  ·rw[Þ];refine Ghost.st _ _ _ _ _ _ o7 ⟨rfl,rfl,rfl,cZ _,fun b _ s=>?_,fun b o hb _ _=>hb,fun b o hb _ _=>hb⟩;rintro(⟨i,hi,hb⟩|hg)
   ·by_cases h0:i=0
    ·subst h0; rw[Þ] at hb; exact s (.inr hb)
    ·rw[Ö _ h0] at hi;rw[ľ _ _ h0] at hb;exact s (.inl ⟨.inl ⟨i,hi,hb⟩,fun q=>h0 (k.inj i 0 b hi c hb q)⟩)
   ·exact s (.inl ⟨.inr hg,fun q=>k.ghne 0 b c q hg⟩)
 refine⟨_,_,H2,Z.trans A (by rw[nO]; exact cZ _),by rw[ã,nO],fun j hj=>?_,hk⟩;have hd:lkB (si h x) j=.dead:=Pz hj;rw[Ö _ (fun q=>by rw[q,f] at hd; cases hd)];exact hd
def aag {E : Env ρ} {call : CK Nat -> Bool -> Nat -> CK AV -> CK Blk -> (AV -> CK Blk -> BY ρ) -> BY ρ} {L : Nat} (J : adX E.P L call) (hP : ∀ (f : Nat) (fn : Func), E.P.funcs[f]? = some fn -> (fn.name == "runtime.NumGoroutine") = false)
 (B:J1 E.P E.clone) (R:lz E)
 {fid:Nat} {path:CK Nat} {y:Bool} {S:St} {a:Act} {nid:Nat} {o:Oper} {K:AV->St->BY ρ} {r:ρ} (hp:path.length=L) (H:Sim ν S a w) (hn:ĕ E.clone o.op=true->nid<S.h.length/\lkB S.h nid=.dead)
 (e:iC E call fid path y S nid o K=some r) {next:Act->World->Prop} {Q:Exit->Act->World->Prop}
 (hk:∀(ν':Nat->Value) (w':World) (u:Value) (v:AV) (i:St),VR ν' i.h w' v u->HR ν' i.h w'->Ev S.h.length ν S.h w ν' i.h w'->S.h.length<=i.h.length->(∀j,j<S.h.length->j≠nid\/ĕ E.clone o.op=false->lkB S.h j=.dead->lkB i.h j=.dead)->i.t=S.t->K v i=some r->next (a.put o.dst u) w') :
 o.wpIn fen 0 E.P a w next Q:=by
 refine⟨fun _ _=>trivial,?_⟩
 have hnd:∀c,o.op≠.defer c:=by
  intro c O;unfold iC at e
  split at e<;>try (cases e; done)
  split at e
  ·rename_i d;rw[O] at d; cases d
  ·rw[O] at e;cases e
 rw[Oper.semAt_eq _ _ _ hnd]
 have plain:∀v i,opR E.P S nid (RO E y fid o) o.op=some (v,i)->K v i=some r->o.uponIn fen 0 E.P a next Q ((execOp a.eval o).run E.P w):=by
  intro v i z h2;obtain⟨ν',w',u,N,h4,h5,h6,h7,h8⟩:=aj6 (clone:=E.clone) H hn z
  have:=hk ν' w' u v i h4 h5 h6 (g8 h7.symm) (fun j _ C hd=>by
   rcases C with C|hal
   ·exact agJ z j C hd
   ·rw[op_nid (nid':=j+1) hal] at z
    exact agJ z j (by omega) hd) h8 h2
  rcases N with N|⟨N,rfl⟩
  ·rw[N]; exact this
  ·rw[N]; exact this
 unfold iC at e
 split at e<;>try (cases e; done)
 split at e
 ·rename_i f p tys d
  split at e<;>try (cases e; done)
  rotate_left
  ·rename_i m
   split at e<;>try (cases e; done)
   rename_i x b
   have G:a.eval f=.func (.yield Ghost.L) #[] #[]:=by
    have:=Œ H f;rw[m] at this;exact this
   obtain⟨fn,tmps,assign,body,V,hR⟩:=afK R H.heap (Œ H x) H.defers.bnd e
   have T:(execOp a.eval o).run E.P w=.ok (.round Ghost.L fn tmps assign body) w:=by
    rw[<-V];unfold execOp;rw[d,arr1 b];simp[resolve,G,Deferred.ofValue,invoke,Sem.run_bind,Result.andThen_ok,callFunc,run_program]
   rw[T,Oper.uponIn_round];refine⟨fun m=>(by cases m),RoundIn.mono (show RoundIn fen 0 E.P _ _ _ _ _ _ _ from hR) fun e' w' U=>?_⟩;obtain⟨rfl,ν',h',g1,g2,g3,g4,g5⟩:=U;exact hk ν' w' (.bool true) (.bool true) {t:=S.t,h:=h'} rfl g1 g2 (g8 g3.symm) (fun j _ _ hd=>g4 j hd) rfl g5
  rename_i g first Z m;have Y:=Œ H f;rw[m] at Y;obtain⟨fs,cs,G,A,I⟩:=Y
  split at e
  ·rename_i k
   split at e<;>try (cases e; done)
   rename_i x b;rw[JP] at e;obtain⟨⟨v,i⟩,z,h2⟩:=iQ e;simp only[cY] at k;obtain⟨k,W⟩:=k
   have hfg:f=.func g:=by
    cases f<;>try (cases W; done)
    simp only[ev] at m
    injection m with q1
    injection q1 with q1
    rw[q1]
   subst hfg;obtain⟨hn1,hn2⟩:=hn (by rw[d]; exact k);obtain⟨⟨fn,c,s,l⟩,O⟩:=B g k _ S nid _ v i z ν w _ H.heap (Œ H x) hn1 hn2
   have T:(execOp a.eval o).run E.P w=.ok (.enter g #[a.eval x]) w:=by
    unfold execOp;rw[d,arr1 b];simp only[resolve,Act.eval,Deferred.ofValue,pure_bind,invoke,callFunc,Sem.run_bind,run_program,Result.andThen_ok,s,hP g fn s,l];simp only[Bool.false_eq_true,if_false,Option.isNone_some];show Result.ok (Next.enter g _) w=_;congr 2;apply Array.ext'
    cases x<;>simp[Act.eval]
   rw[T,Oper.uponIn_enter];refine⟨fun m=>(by cases m),O.mono fun e' w' U=>?_⟩;obtain⟨ν',u',rfl,g1,g2,g3,g4,g6,g5⟩:=U;exact hk ν' w' u' v i g1 g2 g3 g4 (fun j _ C hd=>g6 j (C.resolve_right (by rw[d]; exact fun m=>by rw[show ĕ E.clone (.call ⟨.value (.func g),p,tys⟩)=E.clone g from rfl,k] at m; cases m)) hd) g5 h2
  ·rename_i k
   have b:ē (VR ν S.h w) (first++(p.toList.map (ev S.t)++Z)) (fs.toList++(p.toList.map a.eval++cs.toList)) :=
    (A.mono fun _ _ q=>q.up.up).append ((ē.of_map fun x _=>Œ H x).append (I.mono fun _ _ q=>q.up.up))
   obtain⟨⟨fn,c,s,l⟩,O⟩:=J path y g _ _ _ r hp e ν w _ H.heap H.defers.bnd b
   have T:(execOp a.eval o).run E.P w=.ok (.enter g (fs.toList++(p.toList.map a.eval++cs.toList)).toArray) w:=by
    unfold execOp;rw[d];simp only[resolve,G,Deferred.ofValue,pure_bind,invoke,callFunc,Sem.run_bind,run_program,Result.andThen_ok,s,hP g fn s,l];simp only[Bool.false_eq_true,if_false,Option.isNone_some];show Result.ok (Next.enter g _) w=_;congr 2;apply Array.ext';simp
   rw[T,Oper.uponIn_enter];refine⟨fun m=>(by cases m),O.mono fun e' w' U=>?_⟩;obtain⟨ν',h',v,u,rfl,z,h2,N,h4,h6,h5⟩:=U;exact hk ν' w' u v {t:=S.t,h:=h'} z h2 N h4 (fun j C _ hd=>h6 j C hd) rfl h5
 ·rename_i op hne;rw[UK] at e;obtain⟨⟨v,i⟩,z,h2⟩:=iQ e;exact plain v i z h2
def Fk:∀(t:CK AV) (d:Nat),upd t d (lk t d)=t
 |[],_=>rfl
 |_::_,0=>rfl
 |x::t,d+1=>by simp[upd,lk,Fk t d]
def alq (n nid:Nat) (h:CK Blk):Prop:=∀j,nid<=j->j<nid+n->j<h.length/\lkB h j=.dead
def ou {clone:Nat->Bool} {o:Oper} {os:CK Oper}:i5 clone (o::os)=bif ĕ clone o.op then i5 clone os+1 else i5 clone os:=rfl
def TP {all:CK Oper} {o:Oper} {j:Nat} {b:Bool}:∀{l:CK Oper},uh all l=true->o∈l->o.guard=some (j,b)->∃p d,all[j]?=some p/\p.dst=some d
 |[],_,c,_=>by cases c
 |x::l,f,c,i=>by
  simp only[uh,cY] at f;rcases dh.1 c with rfl|c
  ·have e:=f.1;rw[i] at e;simp only at e
   split at e
   ·rename_i p k;obtain⟨d,hd⟩:=gZ.1 e;exact⟨p,d,k,hd⟩
   ·cases e
  ·exact TP f.2 c i
def adY {c:Array Oper} {tmps:Array Value} {j d:Nat} {p:Oper} (i:c.toList[j]?=some p) (hd:p.dst=some d) :
 (∀b,tmps.getD d undef=.bool b->yielded c tmps j=some b)/\(tmps.getD d undef=undef->yielded c tmps j=none):=by
 have e:c[j]?=some p:=by simpa using i
 constructor
 ·intro b hb;unfold yielded;rw[e];simp only[Option.bind_some,hd]
  cases f:tmps[d]? with
  |none=>simp[eE,f,undef] at hb
  |some v=>simp[eE,f] at hb; subst hb; rfl
 ·intro hb;unfold yielded;rw[e];simp only[Option.bind_some,hd]
  cases f:tmps[d]? with
  |none=>rfl
  |some v=>simp[eE,f] at hb; subst hb; rfl
def qQ (E:Env ρ) (call:CK Nat->Bool->Nat->CK AV->CK Blk->(AV->CK Blk->BY ρ)->BY ρ) (fid:Nat) (path:CK Nat) (c:Bool) (all:CK Oper) (i nid:Nat) (o:Oper) (S:St) (K:St->BY ρ):BY ρ :=
 match o.guard with
 |none=>iC E call fid (path++[i]) c S nid o fun v S=>K {t:=Ā S.t o.dst v,h:=S.h}
 |some (j,want)=>match lk S.t (qj all j) with
  |.bool b=>match b==want with
   |true=>iC E call fid (path++[i]) c S nid o fun v S=>K {t:=Ā S.t o.dst v,h:=S.h}
   |false=>K {t:=Ā S.t o.dst .und,h:=S.h}
  |.und=>K {t:=Ā S.t o.dst .und,h:=S.h}
  |_=>none
def agF {E:Env ρ} {call:CK Nat->Bool->Nat->CK AV->CK Blk->(AV->CK Blk->BY ρ)->BY ρ} {fid:Nat} {path:CK Nat} {c:Bool} {all:CK Oper} {o:Oper} {os:CK Oper} {i nid:Nat} {S:St} {K:St->BY ρ} :
 aej E call fid path c all (o::os) i nid S K=qQ E call fid path c all i nid o S fun m=>aej E call fid path c all os (i+1) (bif ĕ E.clone o.op then nid+1 else nid) m K:=by
 simp only[aej,qQ]
 have f:∀d b,lk S.t d=.bool b->({t:=upd S.t d (.bool b),h:=S.h}:St)=S:=fun d b hb=>by rw[<-hb,Fk]
 have e:∀d b,lk S.t d=.bool b->upd S.t d (.bool b)=S.t:=fun d b hb=>by rw[<-hb,Fk]
 cases o.guard with
 |none=>rfl
 |some g =>
  obtain⟨j,k⟩:=g;simp only
  cases hb:lk S.t (qj all j)<;>try rfl
  rename_i b;have l:=f _ b hb;have h2:=e _ b hb
  cases b<;>cases k<;>simp only[l,h2]<;>rfl
def ME {E : Env ρ} {call : CK Nat -> Bool -> Nat -> CK AV -> CK Blk -> (AV -> CK Blk -> BY ρ) -> BY ρ} {L : Nat} (z : adX E.P L call) (Z : ∀ (f : Nat) (fn : Func), E.P.funcs[f]? = some fn -> (fn.name == "runtime.NumGoroutine") = false)
 (m:J1 E.P E.clone) (B:lz E) {fid:Nat} {path:CK Nat} {q:Bool} {c:Array Oper} (Y:uh c.toList c.toList=true)
 {S:St} {a:Act} {nid i:Nat} {o:Oper} {K:St->BY ρ} {r:ρ} (J:path.length+1=L) (U:c[i]?=some o) (H:Sim ν S a w) (W:ĕ E.clone o.op=true->nid<S.h.length/\lkB S.h nid=.dead)
 (e:qQ E call fid path q c.toList i nid o S K=some r) {next:Act->World->Prop} {Q:Exit->Act->World->Prop}
 (V:∀(ν':Nat->Value) (w':World) (u:Value) (v:AV) (s:St),VR ν' s.h w' v u->HR ν' s.h w'->Ev S.h.length ν S.h w ν' s.h w'->S.h.length<=s.h.length->(∀j,j<S.h.length->j≠nid\/ĕ E.clone o.op=false->lkB S.h j=.dead->lkB s.h j=.dead)->s.t=S.t ->
  K {t:=Ā s.t o.dst v,h:=s.h}=some r->next (a.put o.dst u) w') :
 wpOpIn fen 0 E.P c Q i next a w:=by
 have A:iC E call fid (path++[i]) q S nid o (fun v S=>K {t:=Ā S.t o.dst v,h:=S.h})=some r ->
  o.wpIn fen 0 E.P a w next Q:=fun R=>aag z Z m B (by simpa using J) H W R V
 -- it is left out
 have skip:K {t:=Ā S.t o.dst .und,h:=S.h}=some r->next (a.put o.dst undef) w :=
  fun R=>V ν w undef .und S rfl H.heap (Ev.refl _ _ _ _) (cZ _) (fun _ _ _ hd=>hd) rfl R
 have G:o∈c.toList:=by
  have:c.toList[i]?=some o:=by simpa using U
  exact df this
 unfold wpOpIn;rw[U];simp only[qQ] at e
 split at e
 ·rename_i k
  have x:Region.wanted o (yielded c a.tmps)=true:=by simp[Region.wanted,k]
  simp only[x,if_true];exact A e
 ·rename_i j T k;obtain⟨p,d,J,hd⟩:=TP Y G k;obtain⟨O,N⟩:=adY (tmps:=a.tmps) J hd
  have y:qj c.toList j=d:=by simp[qj,J,hd]
  rw[y] at e;have I:=H.tmps d
  split at e
  ·rename_i b hb;rw[hb] at I;have C:=O b I
   split at e
   ·rename_i l
    have x:Region.wanted o (yielded c a.tmps)=true:=by
     simp only[beq_iff_eq] at l;simp[Region.wanted,k,C,l]
    simp only[x,if_true];exact A e
   ·rename_i l
    have x:Region.wanted o (yielded c a.tmps)=false:=by
     simp only[beq_eq_false_iff_ne] at l;simpa[Region.wanted,k,C] using l
    simp only[x,dr,if_false];exact⟨fun _ _=>trivial,skip e⟩
  ·rename_i hb;rw[hb] at I
   have x:Region.wanted o (yielded c a.tmps)=false:=by simp[Region.wanted,k,N I]
   simp only[x,dr,if_false];exact⟨fun _ _=>trivial,skip e⟩
  ·cases e
def agE {E : Env ρ} {call : CK Nat -> Bool -> Nat -> CK AV -> CK Blk -> (AV -> CK Blk -> BY ρ) -> BY ρ} {L : Nat} (p : adX E.P L call) (N : ∀ (f : Nat) (fn : Func), E.P.funcs[f]? = some fn -> (fn.name == "runtime.NumGoroutine") = false)
 (k:J1 E.P E.clone) (q:lz E) {fid:Nat} {path:CK Nat} {l:Bool} {c:Array Oper} (J:uh c.toList c.toList=true)
 {S:St} {a:Act} {nid i:Nat} {o:Oper} {os:CK Oper} {K:St->BY ρ} {r:ρ} (A:path.length+1=L) (B:c[i]?=some o) (H:Sim ν S a w) (y:alq (i5 E.clone (o::os)) nid S.h)
 (e:aej E call fid path l c.toList (o::os) i nid S K=some r) {next:Act->World->Prop} {Q:Exit->Act->World->Prop}
 (G:∀(ν':Nat->Value) (w':World) (u:Value) (v:AV) (d:St),VR ν' d.h w' v u->HR ν' d.h w'->Ev S.h.length ν S.h w ν' d.h w'->S.h.length<=d.h.length->alq (i5 E.clone os) (bif ĕ E.clone o.op then nid+1 else nid) d.h->(∀j,j<S.h.length->j<nid->lkB S.h j=.dead->lkB d.h j=.dead)->d.t=S.t ->
  aej E call fid path l c.toList os (i+1) (bif ĕ E.clone o.op then nid+1 else nid) {t:=Ā d.t o.dst v,h:=d.h} K=some r->next (a.put o.dst u) w') :
 wpOpIn fen 0 E.P c Q i next a w:=by
 have x:ĕ E.clone o.op=true->nid<S.h.length/\lkB S.h nid=.dead:=fun b=>y nid (cZ _) (by rw[ou,b]; simp)
 have m:alq (i5 E.clone os) (bif ĕ E.clone o.op then nid+1 else nid) S.h:=fun j s h2=>by
  cases b:ĕ E.clone o.op with
  |true=>rw[b] at s h2; exact y j (by simp at s; omega) (by rw[ou,b]; simp at h2 ⊢; omega)
  |false=>rw[b] at s h2; exact y j (by simpa using s) (by rw[ou,b]; simpa using h2)
 rw[agF] at e;refine ME p N k q J A B H x e fun ν' w' u v d g1 Z Y W z V U=>G ν' w' u v d g1 Z Y W (fun j h2 T=>?_) (fun j I C hd=>z j I (.inl (by omega)) hd) V U;obtain⟨R,O⟩:=m j h2 T;refine⟨by omega,z j R ?_ O⟩
 cases b:ĕ E.clone o.op with
 |true=>left; rw[b] at h2; simp at h2; omega
 |false=>exact .inr rfl
end
end Go.Am
end

noncomputable section
namespace Go.Am
variable [Ghost]
section
variable {ρ:Type} {ν ν':Nat->Value} {h h':CK Blk} {w w':World} {P:Program}
def Dd (m:Nat) (h h':CK Blk):Prop:=∀j,j<m->lkB h j=.dead->lkB h' j=.dead
def Dd.refl (m:Nat) (h:CK Blk):Dd m h h:=fun _ _ hd=>hd
def Dd.trans {m c:Nat} {h h' b:CK Blk} (f:Dd m h h') (h2:Dd c h' b) (e:m<=c):Dd m h b:=fun j d hd=>h2 j (dz d e) (f j d hd)
def abK (m:Nat) (ν:Nat->Value) (h:CK Blk) (w:World) (K:Exit->St->BY ρ) (r:ρ) (e:Exit) (c:Act) (w':World):Prop :=
 ∃ν' b,Sim ν' b c w'/\Ev m ν h w ν' b.h w'/\m<=b.h.length/\Dd m h b.h/\K e b=some r
def abK.trans {m i:Nat} {K:Exit->St->BY ρ} {r:ρ} {e:Exit} {j:Act} {b:Nat->Value} {c:CK Blk} {d:World} (ev:Ev m ν h w b c d) (hd:Dd m h c) (f:m<=i) (ha:abK i b c d K r e j w'):abK m ν h w K r e j w':=by
 obtain⟨ν',q,p,h2,o,l,k⟩:=ha;exact⟨ν',q,p,ev.trans h2 f,dw f o,hd.trans l f,k⟩
def ajy (E:Env ρ) (call:CK Nat->Bool->Nat->CK AV->CK Blk->(AV->CK Blk->BY ρ)->BY ρ):Prop :=
 (∀path c g b h K,call path c g b h K=none) \/
 ((∀ f p, E.pure f = some p -> ∀ path c b h K, call path c f b h K = Uu (c && !E.fz f) p h b K) /\
  (∀f,E.pure f=none->E.sort f=true->∀path c b h K,call path c f b h K=match b with|[x]=>Uk h x K|_=>none) /\
  (∀f,E.pure f=none->E.sort f=false->E.compact f=true->∀path c b h K,call path c f b h K=match b with|[x]=>qt h x K|_=>none))
def NormOk (m:Nat) (N:St->BY St):Prop:=∀(S b:St) (ν:Nat->Value) (a:Act) (w:World),N S=some b->Sim ν S a w->m<=S.h.length->∃ν',Sim ν' b a w/\Ev m ν S.h w ν' b.h w/\m<=b.h.length/\Dd m S.h b.h
def ZV (E:Env ρ):Prop:=∀path fid rid m J,E.joins path fid rid m=some J->∃N,NormOk m N/\∀b rest,J b rest=b (fun S=>match N S with|some c=>rest c|none=>none)
def Ś {E:Env ρ} (h:E.joins=fun _ _ _ _=>none):ZV E:=by
 intro path fid rid m J e;rw[h] at e;cases e
structure nc (E:Env ρ) (L:Nat) (call:CK Nat->Bool->Nat->CK AV->CK Blk->(AV->CK Blk->BY ρ)->BY ρ):Prop where
 pureEq:ajy E call
 call:adX E.P L call
 plain : ∀ (f : Nat) (fn : Func), E.P.funcs[f]? = some fn -> (fn.name == "runtime.NumGoroutine") = false
 clone:J1 E.P E.clone
 joins:ZV E
 yld:lz E
def XM {E:Env ρ} {call:CK Nat->Bool->Nat->CK AV->CK Blk->(AV->CK Blk->BY ρ)->BY ρ} {L:Nat} (l:nc E L call) {fid:Nat} {path:CK Nat} {p:Bool} {b:Array Oper} (B:path.length+1=L) (G:uh b.toList b.toList=true)
 {K:St->BY ρ} {r:ρ} {Q:Exit->Act->World->Prop} {m:Nat}:∀(os:CK Oper) (i nid:Nat) (S:St) (a:Act) (ν:Nat->Value) (w:World),(∀k,os[k]?=b[i+k]?)->Sim ν S a w->alq (i5 E.clone os) nid S.h->m<=nid->m<=S.h.length ->
  aej E call fid path p b.toList os i nid S K=some r ->
  (∀ν' c J w',Sim ν' c J w'->Ev m ν S.h w ν' c.h w'->m<=c.h.length->Dd m S.h c.h->K c=some r->Q .normal J w') ->
  wpOpsIn fen 0 E.P b Q (List.range' i os.length) a w
 |[],i,nid,S,a,ν,w,_,H,_,_,x,e,y=>y ν S a w H (Ev.refl _ _ _ _) x (Dd.refl _ _) e
 |o::os,i,nid,S,a,ν,w,C,H,N,O,x,e,y=>by
  rw[dk,List.range'_succ,wpOpsIn_cons]
  have s:b[i]?=some o:=by have:=C 0; simpa using this.symm
  refine agE l.call l.plain l.clone l.yld G B s H N e fun ν' w' u v c Y h2 I h4 W T V U=>?_;have f:=H.put I h2 o.dst Y
  refine XM l B G os (i+1) _ {t:=Ā c.t o.dst v,h:=c.h} _ ν' w' (fun k=>by have:=C (k+1); rw[show i+1+k=i+(k+1) by omega]; simpa using this) (by rw[V]; exact f) W (by cases ĕ E.clone o.op<;>simp<;>omega) (by simp; omega) U
   fun d A z q g1 g2 g3 g4 Z=>y d A z q g1 ((I.mono x).trans g2 (cZ _)) g3 (fun j R hd=>g4 j R (T j (by omega) (by omega) hd)) Z
def aak {E:Env ρ} {call:CK Nat->Bool->Nat->CK AV->CK Blk->(AV->CK Blk->BY ρ)->BY ρ} {L:Nat} (p:nc E L call) {fid rid:Nat} {path:CK Nat} {c:Array Oper} {S:St} {a:Act} {K:Exit->St->BY ρ} {r:ρ} {m:Nat} (i:path.length+1=L)
 (e:MP E call fid path false c.toList S (K .normal)=some r) (H:Sim ν S a w) (l:m<=S.h.length):(Code.region rid c false).wpIn fen 0 E.P (abK m ν S.h w K r) a w:=by
 unfold MP at e
 split at e<;>try (cases e; done)
 rename_i f;simp only[Bool.false_and,Bool.false_or,fp] at f;apply wpIn_region;have b:=fun id=>Vw S.h (i5 E.clone c.toList) id;have A:Sim ν {t:=S.t,h:=S.h++List.replicate (i5 E.clone c.toList) .dead} a w:=H.same b rfl rfl rfl rfl;have d:Ev m ν S.h w ν (S.h++List.replicate (i5 E.clone c.toList) .dead) w:=Ev.same b rfl rfl rfl rfl m
 have:=XM (m:=m) (Q:=abK m ν S.h w K r) p i f c.toList 0 S.h.length _ a ν w (fun k=>by simp) A (fun j q h2=>⟨by simp; omega,by simp only[b]; exact Y7 _ _ q⟩) l (by simp; omega) e
  (fun ν' z B w' y x v u s=>⟨ν',z,y,d.trans x (cZ _),v,fun j o hd=>u j o (by simp only[b]; exact hd),s⟩)
 rw[List.range_eq_range'];simpa using this
def wC (E:Env ρ) (L:Nat) (call:CK Nat->Bool->Nat->CK AV->CK Blk->(AV->CK Blk->BY ρ)->BY ρ):Prop :=
 ∀(fid rid:Nat) (path:CK Nat) (b:Array Oper) (S:St) (a:Act) (K:Exit->St->BY ρ) (r:ρ) (m:Nat) (ν:Nat->Value) (w:World),path.length+1=L ->
  MP E call fid path true b.toList S (K .normal)=some r->Sim ν S a w->m<=S.h.length->(Code.region rid b true).wpIn fen 0 E.P (abK m ν S.h w K r) a w
def drawn:Code->Bool
 |.region _ _ d=>d
 |.seq a b=>drawn a||drawn b
 |.cond _ a b=>drawn a||drawn b
 |.block _ b=>drawn b
 |.scope b=>drawn b
 |_=>false
def noGoto (Q:Exit->Act->World->Prop):Exit->Act->World->Prop
 |.goto _,_,_=>False
 |e,a,w=>Q e a w
section
variable {F:Fence} {n:Nat} {P:Program} {Q:Exit->Act->World->Prop} {a:Act} {w:World}
def nl {b:Frame} {k:CK Item} {cs:CK Frame} {c:Code}:step P (lone (b.atR a (.code (.scope c)::k)) cs w)=.next (lone (b.atR a (.code c::.inScope c::k)) cs w) :=
 step_lone_go (by simp[stepG,stepG.exec,Frame.atR])
def Uj {b:Frame} {k:CK Item} {cs:CK Frame} {c:Code}:step P (lone (b.atR a (.inScope c::k)) cs w)=.next (lone (b.atR a k) cs w) :=
 step_lone_go (by simp[stepG,stepG.exec,Frame.atR])
def adZ {c:Code} (h:c.wpIn F n P (noGoto Q) a w):(Code.scope c).wpIn F n P Q a w:=by
 intro b k cs m hb p;have h0:(lone (b.atR a (.code (.scope c)::k)) cs w).fenced P F:=fenced_calm hb p rfl;obtain⟨e,i,f,j,d⟩:=h b (.inScope c::k) cs m hb p
 cases e with
 |normal=>exact⟨.normal,i,f,j,.head h0 nl (StepsIn.trans d (.one (fenced_calm hb p rfl) Uj))⟩
 |exit id =>
  have r:exitTo id (.inScope c::k)=exitTo id k:=by simp[exitTo]
  exact⟨.exit id,i,f,j,fun s q=>.head h0 nl (d.1 s (by rw[r]; exact q)),
   fun o q=>let ⟨k₁,u,h2⟩:=d.2 o (by rw[r]; exact q); ⟨k₁,u,.head h0 nl h2⟩⟩
 |goto l=>exact j.elim
 |ret=>exact⟨_,i,f,j,.of_steps (.one h0 nl) d⟩
 |panic ch=>exact⟨_,i,f,j,.of_steps (.one h0 nl) d⟩
 |outgrown=>exact⟨_,i,f,j,.of_steps (.one h0 nl) d⟩
end
def uu (E:Env ρ) (path:CK Nat) (fid bid:Nat):LI->Prop
 |.lp b=>∀(m:Nat) (S:St) (K:Exit->St->BY ρ) (r:ρ) (ν:Nat->Value) (a:Act) (w:World),E.loops path fid bid m S K=some r->Sim ν S a w->m<=S.h.length->(Code.loop b).wpIn fen 0 E.P (abK m ν S.h w K r) a w
 |.rf g ps x y=>∀(m:Nat) (S:St) (K:Exit->St->BY ρ) (r:ρ) (ν:Nat->Value) (a:Act) (w:World),E.ranges path fid bid m (ev S.t g) S K=some r->Sim ν S a w->m<=S.h.length->(Code.rangeFunc g ps x y).wpIn fen 0 E.P (abK m ν S.h w K r) a w
def JE {E:Env ρ} {call:CK Nat->Bool->Nat->CK AV->CK Blk->(AV->CK Blk->BY ρ)->BY ρ} {L:Nat} (V:nc E L call) {fid:Nat} {path:CK Nat} (U:path.length+2=L) {m:Nat} {r:ρ}:∀(c:Code) (bid:Nat) (S:St) (K:Exit->St->BY ρ) (ν:Nat->Value) (a:Act) (w:World),
 (drawn c=true->wC E L call)->(∀x∈â bid c,uu E path fid x.1 x.2)->goC E call fid path m bid c S K=some r->Sim ν S a w->m<=S.h.length->c.wpIn fen 0 E.P (abK m ν S.h w K r) a w:=by
 intro c
 induction c with
 |skip=>exact fun bid S K ν a w _ _ e H p=>wpIn_skip ⟨ν,S,H,Ev.refl _ _ _ _,p,Dd.refl _ _,e⟩
 |label l=>exact fun bid S K ν a w _ _ e H p=>wpIn_label ⟨ν,S,H,Ev.refl _ _ _ _,p,Dd.refl _ _,e⟩
 |exit id=>exact fun bid S K ν a w _ _ e H p=>wpIn_exit ⟨ν,S,H,Ev.refl _ _ _ _,p,Dd.refl _ _,e⟩
 |ret=>exact fun bid S K ν a w _ _ e H p=>wpIn_ret ⟨ν,S,H,Ev.refl _ _ _ _,p,Dd.refl _ _,e⟩
 |region rid ops draw =>
  intro bid S K ν a w s _ e H p;simp only[goC,ahR] at e
  cases draw with
  |false=>exact aak V (by simpa using U) e H p
  |true=>exact s rfl fid rid _ ops S a K r m ν w (by simpa using U) e H p
 |seq x y ihx ihy =>
  intro bid S K ν a w s q e H p;simp only[goC] at e
  cases v:E.joins path fid (Pu y) m with
  |none =>
   rw[v] at e;simp only at e;refine wpIn_seq (wpIn_mono (ihx bid S _ ν a w (fun h=>s (by simp[drawn,h])) (fun z u=>q z (dT _ u)) e H p) fun A B w' ha=>?_);obtain⟨ν',o,k,h2,i,f,d⟩:=ha
   cases A with
   |normal =>
    exact wpIn_mono (ihy bid o K ν' B w' (fun h=>s (by simp[drawn,h])) (fun z u=>q z (dO _ u)) d k i) fun R T O ha=>ha.trans h2 f (cZ _)
   |exit id=>exact⟨ν',o,k,h2,i,f,d⟩
   |goto l=>exact⟨ν',o,k,h2,i,f,d⟩
   |ret=>exact⟨ν',o,k,h2,i,f,d⟩
   |panic ch=>exact⟨ν',o,k,h2,i,f,d⟩
   |outgrown=>exact⟨ν',o,k,h2,i,f,d⟩
  |some J =>
   rw[v] at e;simp only at e;obtain⟨N,Y,Z⟩:=V.joins _ _ _ _ _ v;rw[Z] at e;refine wpIn_seq (wpIn_mono (ihx bid S _ ν a w (fun h=>s (by simp[drawn,h])) (fun z u=>q z (dT _ u)) e H p) fun A B w' ha=>?_);obtain⟨ν',o,k,h2,i,f,d⟩:=ha
   cases A with
   |normal =>
    simp only at d
    split at d<;>try (cases d; done)
    rename_i I W;obtain⟨C,g1,g2,g3,g4⟩:=Y o I ν' B w' W k i;exact wpIn_mono (ihy bid I K C B w' (fun h=>s (by simp[drawn,h])) (fun z u=>q z (dO _ u)) d g1 g3) fun R T O ha=>ha.trans (h2.trans g2 (cZ _)) (f.trans g4 (cZ _)) (cZ _)
   |exit id=>exact⟨ν',o,k,h2,i,f,d⟩
   |goto l=>exact⟨ν',o,k,h2,i,f,d⟩
   |ret=>exact⟨ν',o,k,h2,i,f,d⟩
   |panic ch=>exact⟨ν',o,k,h2,i,f,d⟩
   |outgrown=>exact⟨ν',o,k,h2,i,f,d⟩
 |cond c x y ihx ihy =>
  intro bid S K ν a w s q e H p;simp only[goC] at e
  split at e<;>try (cases e; done)
  rename_i b hb;have G:=Œ H c;rw[hb] at G;have G:a.eval c=.bool b:=G
  split at e
  ·exact wpIn_cond_true G (ihx bid S K ν a w (fun h=>s (by simp[drawn,h])) (fun z u=>q z (dT _ u)) e H p)
  ·exact wpIn_cond_false G (ihy bid S K ν a w (fun h=>s (by simp[drawn,h])) (fun z u=>q z (dO _ u)) e H p)
 |block id b ih =>
  intro bid S K ν a w s q e H p;simp only[goC] at e;refine wpIn_block (wpIn_mono (ih id S _ ν a w (fun h=>s (by simpa[drawn] using h)) q e H p) fun A B w' ha=>?_);obtain⟨ν',o,k,h2,i,f,d⟩:=ha
  cases A with
  |exit j =>
   simp only[Exit.inBlock];simp only at d
   split at d
   ·rename_i v;rw[if_pos (eq_of_beq v)];exact⟨ν',o,k,h2,i,f,d⟩
   ·rename_i v
    have:¬j=id:=by simpa using v
    rw[if_neg this];exact⟨ν',o,k,h2,i,f,d⟩
  |normal=>exact⟨ν',o,k,h2,i,f,d⟩
  |goto l=>exact⟨ν',o,k,h2,i,f,d⟩
  |ret=>exact⟨ν',o,k,h2,i,f,d⟩
  |panic ch=>exact⟨ν',o,k,h2,i,f,d⟩
  |outgrown=>exact⟨ν',o,k,h2,i,f,d⟩
 |loop b ih =>
  intro bid S K ν a w s q e H p;simp only[goC] at e;exact q (bid,.lp b) (by simp[â]) m S K r ν a w e H p
 |rangeFunc g ps x y ihx ihy =>
  intro bid S K ν a w s q e H p;simp only[goC] at e;exact q (bid,.rf g ps x y) (by simp[â]) m S K r ν a w e H p
 |scope b ih =>
  intro bid S K ν a w s q e H p;simp only[goC] at e;refine adZ (wpIn_mono (ih bid S _ ν a w (fun h=>s (by simpa[drawn] using h)) q e H p) fun A B w' ha=>?_);obtain⟨ν',o,k,h2,i,f,d⟩:=ha
  cases A with
  |goto l=>cases d
  |normal=>exact⟨ν',o,k,h2,i,f,d⟩
  |exit id=>exact⟨ν',o,k,h2,i,f,d⟩
  |ret=>exact⟨ν',o,k,h2,i,f,d⟩
  |panic ch=>exact⟨ν',o,k,h2,i,f,d⟩
  |outgrown=>exact⟨ν',o,k,h2,i,f,d⟩
 |_=>intro bid S K ν a w s q e H p; cases e
def vX {E:Env ρ} {call:CK Nat->Bool->Nat->CK AV->CK Blk->(AV->CK Blk->BY ρ)->BY ρ} {L:Nat} (i:nc E L call) (j:wC E L call) {fid:Nat} {path:CK Nat} (b:path.length+2=L) {m:Nat} {r:ρ} (c:Code) (bid:Nat) (S:St) (K:Exit->St->BY ρ) (ν:Nat->Value) (a:Act) (w:World)
 (f:∀x∈â bid c,uu E path fid x.1 x.2) (e:goC E call fid path m bid c S K=some r) (H:Sim ν S a w) (d:m<=S.h.length):c.wpIn fen 0 E.P (abK m ν S.h w K r) a w :=
 JE i b c bid S K ν a w (fun _=>j) f e H d
end
end Go.Am
end

noncomputable section
namespace Go.Am
variable [Ghost]
section
variable {ρ:Type} {ν ν':Nat->Value} {h h':CK Blk} {w w':World} {P:Program}
def ajx:Prop:=∀(T:Tpl) (pin:Nat) (cs vs:CK Ty) (S:St) (p:Val (tyL cs)) (v:Val (tyL vs)) (ν:Nat->Value) (a:Act) (w:World),yi T pin cs vs S=some (p,v)->Sim ν S a w ->
 ∃ν',Sim ν' (ú T cs vs p v) a w/\Ev pin ν S.h w ν' (ú T cs vs p v).h w/\pin<=(ú T cs vs p v).h.length/\Dd pin S.h (ú T cs vs p v).h
def TU:∀(l:CK (Exit×Tpl×CK Ty)) (e:Exit) (i j:Nat),akz l e i=some j->∃x,i<=j/\l[j-i]?=some x/\LS x.1 e=true
 |[],_,_,_,h=>by cases h
 |x::l,e,i,j,h=>by
  unfold akz at h
  split at h
  ·rename_i b;cases h;exact⟨x,cZ _,by simp,b⟩
  ·obtain⟨y,d,h2,c⟩:=TU l e (i+1) j h;refine⟨y,by omega,?_,c⟩;rw[show j-i=(j-(i+1))+1 by omega];simpa using h2
def aaf {a b:Exit} (h:LS a b=true):a=b:=by
 unfold LS at h
 split at h
 ·rw[eq_of_beq h]
 ·rfl
 ·cases h
def ake (hM:ajx) {E:Env ρ} {call:CK Nat->Bool->Nat->CK AV->CK Blk->(AV->CK Blk->BY ρ)->BY ρ} {N:Nat} (hE:nc E N call) (hD:wC E N call) {fid bid:Nat} {path:CK Nat} (O:path.length+2=N) {b:Code}
 (hin:∀x∈â bid b,uu E path fid x.1 x.2) (L:Å)
 (bF:Val (tyL L.cs)->Val (tyL L.vs)->(Val (tyL L.vs)->BY ρ)->((i:Nat)->Val (tyL (L.zs i))->BY ρ)->BY ρ)
 (law:∀p v G kx,goC E call fid path L.pin bid b (ú L.head L.cs L.vs p v) (D3 L G kx)=bF p v (G p) (fun i=>kx i p)) {m:Nat} {S:St} {K:Exit->St->BY ρ} {r:ρ} {ν:Nat->Value} {a:Act} {w:World} (e:aah L bF m S K=some r) (H:Sim ν S a w) (hm:m<=S.h.length):(Code.loop b).wpIn fen 0 E.P (abK m ν S.h w K r) a w:=by
 unfold aah at e
 split at e<;>try (cases e; done)
 rename_i c;have c:m<=L.pin:=eY c
 split at e<;>try (cases e; done)
 rename_i p v B;obtain⟨n,hn⟩:=aeG e;obtain⟨d,H1,V,T,Y⟩:=hM _ _ _ _ _ _ _ ν a w B H;apply wpIn_loop_rounds n
 have key:∀(n:Nat) (p:Val (tyL L.cs)) (v:Val (tyL L.vs)) (d:Nat->Value) (q:Act) (f:World),ajF (fun v G=>bF p v G fun i z=>K (L.xk i) (ú (L.tpl i) L.cs (L.zs i) p z)) n v=some r ->
  Sim d (ú L.head L.cs L.vs p v) q f->Ev m ν S.h w d (ú L.head L.cs L.vs p v).h f->L.pin<=(ú L.head L.cs L.vs p v).h.length->Dd m S.h (ú L.head L.cs L.vs p v).h ->
  Code.roundsIn fen 0 E.P b (abK m ν S.h w K r) n q f:=by
  intro n
  induction n with
  |zero=>intro p v d q f e; cases e
  |succ n ih =>
   intro p v d q f e H1 V T Y;rw[roundsIn_succ];have hl:=law p v (fun p v=>ajF (fun v G=>bF p v G fun i z=>K (L.xk i) (ú (L.tpl i) L.cs (L.zs i) p z)) n v) (fun i p z=>K (L.xk i) (ú (L.tpl i) L.cs (L.zs i) p z))
   have e':goC E call fid path L.pin bid b (ú L.head L.cs L.vs p v) (D3 L (fun p v=>ajF (fun v G=>bF p v G fun i z=>K (L.xk i) (ú (L.tpl i) L.cs (L.zs i) p z)) n v) (fun i p z=>K (L.xk i) (ú (L.tpl i) L.cs (L.zs i) p z)))=some r:=by
    rw[hl]; exact e
   refine wpIn_mono (vX hE hD O b bid _ _ d q f hin e' H1 T) fun x A o ha=>?_;obtain⟨u,C,H2,ev2,hp2,dd2,k⟩:=ha;have I:Ev m ν S.h w u C.h o:=V.trans ev2 c;have J:Dd m S.h C.h:=Y.trans dd2 c
   have out:∀x,x≠.normal->D3 L (fun p v=>ajF (fun v G=>bF p v G fun i z=>K (L.xk i) (ú (L.tpl i) L.cs (L.zs i) p z)) n v) (fun i p z=>K (L.xk i) (ú (L.tpl i) L.cs (L.zs i) p z)) x C=some r->abK m ν S.h w K r x A o:=by
    intro x hx k;unfold D3 at k
    split at k
    ·exact absurd rfl hx
    ·split at k<;>try (cases k; done)
     rename_i i hi
     split at k<;>try (cases k; done)
     rename_i Z z B;obtain⟨y,_,h1,h2⟩:=TU _ _ _ _ hi
     have hxk:L.xk i=x:=by
      have:L.exits[i]?=some y:=by simpa using h1
      unfold Å.xk;rw[this];exact aaf h2
     obtain⟨s,H3,U,R,W⟩:=hM _ _ _ _ _ _ _ u A o B H2;have k:K (L.xk i) (ú (L.tpl i) L.cs (L.zs i) Z z)=some r:=k;rw[hxk] at k;exact⟨s,_,H3,I.trans U c,dw c R,J.trans W c,k⟩
   cases x with
   |normal =>
    simp only[D3] at k
    split at k<;>try (cases k; done)
    rename_i Z v' B;obtain⟨s,H3,U,R,W⟩:=hM _ _ _ _ _ _ _ u A o B H2;exact ih Z v' s A o k H3 (I.trans U c) R (J.trans W c)
   |exit id=>exact out _ (by simp) k
   |ret=>exact out _ (by simp) k
   |goto l=>exact out _ (by simp) k
   |panic ch=>exact out _ (by simp) k
   |outgrown=>exact out _ (by simp) k
 exact key n p v d a w hn H1 (V.mono c) T (fun j hj hd=>Y j (by omega) hd)
end
end Go.Am
end

noncomputable section
namespace Go.Am
variable [Ghost]
section
variable {ν:Nat->Value} {h h':CK Blk} {w:World}
def ZA {t:Ty} {d:DV} {x:Val t} (e:P4 t d=some x):d=⟨t,x⟩:=by
 unfold P4 at e
 split at e<;>try (cases e; done)
 rename_i b _;obtain⟨ty,val⟩:=d;simp only at b;subst b;cases e;rfl
def ad1 (u:Ty) (l:CK Ty) (t:Ty) (d:DV) (b:CK DV):ad2 (u::l) t (d::b)=(match P4 t d with
 |some x=>match ad2 l u b with
  |some y=>some ((x,y):Val t×Val (tys u l))
  |none=>none
 |none=>none):=rfl
def agM (t:Ty) (x:Val t):aem t [] x=[⟨t,x⟩]:=rfl
def ael (t u:Ty) (l:CK Ty) (x:Val t) (y:Val (tys u l)):aem t (u::l) ((x,y):Val t×Val (tys u l))=⟨t,x⟩::aem u l y:=rfl
def ajL (l:CK Ty):∀(t:Ty) (b:CK DV) (x:Val (tys t l)),ad2 l t b=some x->aem t l x=b:=by
 induction l with
 |nil =>
  intro t b x e
  match b,e with
  |[],e=>exact absurd (show(none:BY (Val t))=some x from e) (fun h=>by cases h)
  |[d],e =>
   have e:P4 t d=some x:=e;rw[ZA e]; exact agM t x
  |_::_::_,e=>exact absurd (show(none:BY (Val t))=some x from e) (fun h=>by cases h)
 |cons u l i =>
  intro t b x e
  match b,e with
  |[],e=>exact absurd (show(none:BY (Val t×Val (tys u l)))=some x from e) (fun h=>by cases h)
  |d::b,e =>
   rw[ad1] at e
   cases c:P4 t d with
   |none=>rw[c] at e; exact absurd (show(none:BY (Val t×Val (tys u l)))=some x from e) (fun h=>by cases h)
   |some y =>
    cases f:ad2 l u b with
    |none=>rw[c,f] at e; exact absurd (show(none:BY (Val t×Val (tys u l)))=some x from e) (fun h=>by cases h)
    |some z =>
     rw[c,f] at e;have e:((y,z):Val t×Val (tys u l))=x:=Option.some.inj e;rw[<-e,ZA c,<-i u b z f];exact ael t u l y z
def abW (l:CK Ty) (b:CK DV) (x:Val (tyL l)) (e:ama l b=some x):aas l x=b:=by
 cases l with
 |nil=>cases b with
  |nil=>rfl
  |cons=>cases e
 |cons t l=>exact ajL l t b x e
def νb (B:CK Bd) (ν:Nat->Value) (i:Nat):Value :=
 match mi B i with
 |some (.at_ id)=>ν id
 |some .new=>.slice none 0 0
 |_=>undef
structure Ext (M M':Mt):Prop where
 bd:∀i id,mi M.bd i=some (.at_ id)->mi M'.bd i=some (.at_ id)
 new:∀i,mi M.bd i=some .new->mi M'.bd i=some .new
 cons:M.cons <+: M'.cons
 vars:M.vars <+: M'.vars
 freed:∀i∈M.freed,i∈M'.freed
 len:M'.bd.length=M.bd.length
def Ext.refl (M:Mt):Ext M M:=⟨fun _ _ h=>h,fun _ h=>h,eF,eF,fun _ h=>h,rfl⟩
def Ext.trans {M c b:Mt} (h:Ext M c) (k:Ext c b):Ext M b :=
 ⟨fun i id q=>k.bd i id (h.bd i id q),fun i q=>k.new i (h.new i q),h.cons.trans k.cons,h.vars.trans k.vars,fun i q=>k.freed i (h.freed i q),k.len.trans h.len⟩
def nJ:∀(l:CK Bd) (d:Nat) (b:Bd) (i:Nat),mi (MA l d b) i=if i=d/\d<l.length then some b else mi l i
 |[],d,v,i=>by simp[MA,mi]
 |x::xs,0,v,0=>by simp[MA,mi]
 |x::xs,0,v,i+1=>by simp[MA,mi]
 |x::xs,d+1,v,0=>by simp[MA,mi]
 |x::xs,d+1,v,i+1=>by simp[MA,mi,nJ xs d v i]
def AJ:∀(l:CK Bd) (d:Nat) (b:Bd),(MA l d b).length=l.length
 |[],_,_=>rfl
 |_::_,0,_=>rfl
 |_::xs,d+1,v=>by simp[MA,AJ xs d v]
def Jy:∀{l:CK Bd} {i:Nat} {b:Bd},mi l i=some b->i<l.length
 |[],_,_,h=>by cases h
 |_::_,0,_,_=>gT _
 |_::_,i+1,_,h=>Nat.succ_lt_succ (Jy (by simpa[mi] using h))
def lT {M d:Mt} {i id:Nat} (e:Ua M i id=some d):Ext M d/\mi d.bd i=some (.at_ id)/\d.cons=M.cons/\d.vars=M.vars:=by
 unfold Ua at e
 split at e<;>try (cases e; done)
 ·rename_i b;cases e;have k:=Jy b;refine⟨⟨fun j f q=>?_,fun j q=>?_,eF,eF,fun _ q=>q,AJ _ _ _⟩,by simp[nJ,k],rfl,rfl⟩
  ·simp only[nJ]
   by_cases c:j=i
   ·subst c; rw[b] at q; cases q
   ·simp[c,q]
  ·simp only[nJ]
   by_cases c:j=i
   ·subst c; rw[b] at q; cases q
   ·simp[c,q]
 ·rename_i f b
  split at e<;>try (cases e; done)
  rename_i hi;cases e;rw[eq_of_beq hi] at b;exact⟨Ext.refl _,b,rfl,rfl⟩
def KE {M c:Mt} {i:Nat} (e:abB M i=some c):Ext M c/\mi c.bd i=some .new/\c.cons=M.cons/\c.vars=M.vars:=by
 unfold abB at e
 split at e<;>try (cases e; done)
 rename_i d;cases e;have f:=Jy d;refine⟨⟨fun j k q=>?_,fun j q=>?_,eF,eF,fun _ q=>q,AJ _ _ _⟩,by simp[nJ,f],rfl,rfl⟩
 ·simp only[nJ]
  by_cases b:j=i
  ·subst b; rw[d] at q; cases q
  ·simp[b,q]
 ·simp only[nJ]
  by_cases b:j=i
  ·subst b; rw[d] at q; cases q
  ·simp[b,q]
def kin:Blk->Blk->Prop
 |.row t _ false xs,B=>B=.row t 0 false xs
 |.row t g true xs,B=>B=.row t g true xs
 |.map k v es,B=>B=.map k v es
 |.cells _,B=>∃b,B=.cells b
 |.dead,B=>B=.dead
 |.acc t xs,B=>B=.acc t xs
structure Fin (ν:Nat->Value) (h:CK Blk) (w:World) (M:Mt) (h':CK Blk):Prop where
 at_:∀i id,mi M.bd i=some (.at_ id)->kin (lkB h id) (lkB h' i)
 new:∀i,mi M.bd i=some .new->∃t,lkB h' i=.row t 0 false []
 out:∀i,(∀id,mi M.bd i≠some (.at_ id))->mi M.bd i≠some .new->lkB h' i=.dead
 freed:∀id∈M.freed,∀i,mi M.bd i≠some (.at_ id)
 inj:∀i j id,mi M.bd i=some (.at_ id)->mi M.bd j=some (.at_ id)->i=j
def Fin.live {M:Mt} (F:Fin ν h w M h') {b:Nat} (hb:Fg (νb M.bd ν) h' b):∃i id,mi M.bd i=some (.at_ id)/\(lkB h id).live=true/\Ŝ (ν id) b:=by
 obtain⟨i,c,j⟩:=hb
 cases d:mi M.bd i with
 |none=>rw[F.out i (by simp[d]) (by simp[d])] at c; cases c
 |some bd =>
  cases bd with
  |open_=>rw[F.out i (by simp[d]) (by simp[d])] at c; cases c
  |new=>simp only[νb,d] at j; cases j
  |at_ id =>
   refine⟨i,id,d,?_,by simpa[νb,d] using j⟩;have f:=F.at_ i id d
   cases e:lkB h id with
   |dead=>rw[e] at f; rw[show lkB h' i=_ from f] at c; cases c
   |cells=>rfl
   |map=>rfl
   |acc=>rfl
   |row t g fz xs =>
    cases fz with
    |false=>rfl
    |true=>rw[e] at f; rw[show lkB h' i=_ from f] at c; cases c
def Fin.subL {M:Mt} (F:Fin ν h w M h') (b:Nat) (hb:Fg (νb M.bd ν) h' b):Fg ν h b:=by
 obtain⟨i,id,_,h2,c⟩:=F.live hb;exact⟨id,h2,c⟩
def Fin.sub {M:Mt} (F:Fin ν h w M h') (b:Nat) (hb:Av (νb M.bd ν) h' b):Av ν h b:=hb.imp_left (F.subL b)
def adu (H:HR ν h w) {M:Mt} (F:Fin ν h w M h') {t:Ty} {v:AV} {u:Value} {x:Val t} (A:∀i∈TS h v,i∈M.freed) (e:Ü t [ā h v]=some x) (z:VR ν h w v u) :
 VR (νb M.bd ν) h' w (aeX ⟨t,x⟩) u:=by
 have c:∀(q:v.isAgg=false) (p:v.isTup=false),CR w (Av (νb M.bd ν) h') t x [u]:=by
  intro q p;have m:=z.one q p;refine Ģ e ⟨Fq H F.sub m fun id b B l hb=>?_,trivial⟩;rintro(hlive|s)
  rotate_left
  ·exact H.ghne id b l hb s
  obtain⟨i,o,h2,E,C⟩:=F.live hlive;have r:id=o:=H.inj id o b l E hb C;subst r;refine F.freed id (A id ?_) i h2;rcases B with⟨g,rfl⟩|⟨g,lo,n,rfl⟩|rfl
  ·obtain⟨_,y,g',fz,xs,j,_⟩:=m;rw[j] at l
   cases fz with
   |true=>cases l
   |false=>simp[TS,j]
  ·obtain⟨_,y,g',fz,xs,j,_⟩:=m;rw[j] at l
   cases fz with
   |true=>cases l
   |false=>simp[TS,j]
  ·simp[TS]
 have fin:(t≠.unit/\∀a b,t≠.pair a b)->v.isAgg=false/\v.isTup=false:=fun⟨m,h2⟩=>by
  constructor
  ·cases v<;>try rfl
   cases t<;>first|(exact absurd rfl m)|(exact absurd rfl (h2 _ _))|(simp[ā,Ü,Ζ] at e)
  ·cases v<;>try rfl
   cases t<;>first|(exact absurd rfl m)|(exact absurd rfl (h2 _ _))|(simp[ā,Ü,Ζ] at e)
 cases t with
 |unit=>trivial
 |pair a b=>trivial
 |bool=>obtain⟨f,d⟩:=fin ⟨by simp,by simp⟩; exact KB (c f d)
 |int k=>obtain⟨f,d⟩:=fin ⟨by simp,by simp⟩; exact KB (c f d)
 |str=>obtain⟨f,d⟩:=fin ⟨by simp,by simp⟩; exact KB (c f d)
 |slice t=>obtain⟨f,d⟩:=fin ⟨by simp,by simp⟩; exact KB (c f d)
 |map k v=>obtain⟨f,d⟩:=fin ⟨by simp,by simp⟩; exact KB (c f d)
 |ptr t=>obtain⟨f,d⟩:=fin ⟨by simp,by simp⟩; exact KB (c f d)
def ŗ {α:Type} {l C:CK α} {d:α} (h:(l++[d]) <+: C):C.drop l.length=d::C.drop (l.length+1):=by
 obtain⟨t,rfl⟩:=h;simp[di]
def qN {B:CK Bd} {i id:Nat} (h:mi B i=some (.at_ id)):νb B ν i=ν id:=by simp[νb,h]
def afJ {B:CK Bd} {i:Nat} (h:mi B i=some .new):νb B ν i=.slice none 0 0:=by simp[νb,h]
def kR:∀(ps:CK (Nat×Nat)) (vs:CK AV) (us:CK Value) (M M1:Mt),zk h ps vs M=some M1->Ext M M1/\M1.cons=M.cons/\M1.vars=M.vars /\
 ∀d,Ext M1 d->Fin ν h w d h'->ē (VR0 ν h w) vs us->ē (VR0 (νb d.bd ν) h' w) (ps.map fun c=>.box c.1 c.2) us
 |[],[],us,M,M1,e=>by
  cases e;exact⟨Ext.refl _,rfl,rfl,fun d _ _ f=>by cases us with|nil=>trivial|cons=>exact f.elim⟩
 |[],_::_,_,_,_,e=>by cases e
 |_::_,[],_,_,_,e=>by cases e
 |(i,o)::ps,v::vs,us,M,M1,e=>by
  cases v<;>try (simp[zk] at e; done)
  rename_i id off;simp only[zk] at e
  split at e<;>try (cases e; done)
  rename_i r
  split at e<;>try (cases e; done)
  rename_i cs s
  split at e<;>try (cases e; done)
  rename_i q hb;obtain⟨y,C,B,v1⟩:=lT hb;obtain⟨p,A,v2,_⟩:=kR ps vs us q M1 e;refine⟨y.trans p,A.trans B,v2.trans v1,fun d m F f=>?_⟩
  cases us with
  |nil=>exact f.elim
  |cons u us =>
   refine⟨?_,(kR ps vs us q M1 e).2.2.2 d m F f.2⟩;obtain⟨z,b,E,h2,x⟩:=f.1;have j:=m.bd i id (p.bd i id C);have k:=F.at_ i id j;rw[s] at k;obtain⟨l,k⟩:=k;exact⟨l,b,k,(qN j).trans h2,by rw[eq_of_beq r]; exact x⟩
def rest (b M:Mt):It:=⟨b.cons.drop M.cons.length,b.vars.drop M.vars.length⟩
def uB:∀(ts:CK Ty) (vs:CK AV) (M M1:Mt),zj ts vs M=some M1->Ext M M1/\∀c,Ext M1 c->(By ts (rest c M)).2=rest c M1 /\
 ∀us:CK Value,Fin ν h w c h'->ē (VR0 ν h w) vs us->ē (VR0 (νb c.bd ν) h' w) (By ts (rest c M)).1 us
 |[],[],M,M1,e=>by
  cases e;exact⟨Ext.refl _,fun c _=>⟨rfl,fun us _ d=>by cases us with|nil=>trivial|cons=>exact d.elim⟩⟩
 |[],_::_,_,_,e=>by cases e
 |_::_,[],_,_,e=>by cases e
 |t::ts,v::vs,M,M1,e=>by
  cases v<;>try (simp[zj] at e; done)
  rename_i i x o;simp only[zj] at e
  split at e<;>try (cases e; done)
  rename_i f
  split at e<;>try (cases e; done)
  rename_i E _;have f:=dt f;subst f;obtain⟨m,r⟩:=uB ts vs _ M1 e;have C:Ext M {M with cons:=M.cons++[⟨.ptr i,x⟩]}:=⟨fun _ _ q=>q,fun _ q=>q,eo _ _,eF,fun _ q=>q,rfl⟩;refine⟨C.trans m,fun c l=>?_⟩;obtain⟨k,j⟩:=r c l;have hd:=ŗ (m.trans l).cons
  have s:rest c {M with cons:=M.cons++[⟨.ptr i,x⟩]}=⟨c.cons.drop (M.cons.length+1),c.vars.drop M.vars.length⟩:=by simp[rest]
  rw[s] at k j;simp only[rest,By,hd];refine⟨k,fun us F d=>?_⟩
  cases us with
  |nil=>exact d.elim
  |cons u us =>
   refine⟨?_,j us F d.2⟩;obtain⟨b,o,p,B,h2,A,z,y⟩:=d.1;exact⟨b,o,p,B,fun h=>h2 (F.sub b h),A,CR.mono F.sub z,y⟩
def Nl (H:HR ν h w) {p:Pat} {v:AV} {M M1:Mt} (e:iT h p v M=some M1):Ext M M1/\∀c u,Ext M1 c->Fin ν h w c h'->VR ν h w v u ->
 VR (νb c.bd ν) h' w (xC p ⟨c.cons.drop M.cons.length,c.vars.drop M.vars.length⟩).1 u /\
  (xC p ⟨c.cons.drop M.cons.length,c.vars.drop M.vars.length⟩).2=⟨c.cons.drop M1.cons.length,c.vars.drop M1.vars.length⟩:=by
 cases p with
 |any=>cases e; exact⟨Ext.refl _,fun c u _ _ _=>⟨trivial,rfl⟩⟩
 |con t =>
  simp only[iT] at e
  split at e<;>try (cases e; done)
  rename_i x G;cases e;refine⟨⟨fun _ _ q=>q,fun _ q=>q,eo _ _,eF,fun _ q=>dO _ q,rfl⟩,fun c u j F d=>?_⟩;have hd:=ŗ j.cons;simp only[xC,hd];exact⟨adu H F (fun i hi=>j.freed i (dT _ hi)) G d,by simp⟩
 |var t =>
  simp only[iT] at e
  split at e<;>try (cases e; done)
  rename_i x G;cases e;refine⟨⟨fun _ _ q=>q,fun _ q=>q,eF,eo _ _,fun _ q=>dO _ q,rfl⟩,fun c u j F d=>?_⟩;have hd:=ŗ j.vars;simp only[xC,hd];exact⟨adu H F (fun i hi=>j.freed i (dT _ hi)) G d,by simp⟩
 |own i =>
  simp only[iT] at e
  split at e<;>try (cases e; done)
  ·rename_i id g
   split at e<;>try (cases e; done)
   rename_i t g' xs z
   split at e<;>try (cases e; done)
   rename_i U;obtain⟨o,y,r,v1⟩:=lT e;refine⟨o,fun c u j F d=>⟨?_,by simp only[xC,r,v1]⟩⟩;have l:=j.bd i id y;have m:=F.at_ i id l;rw[z] at m;obtain⟨J,t2,g2,W,S,s,_,I⟩:=d;rw[z] at s; cases s;exact⟨J,t,0,false,xs,m,cZ _,fun _=>(I (eq_of_beq U)).trans (qN l).symm⟩
  ·obtain⟨o,y,r,v1⟩:=KE e;refine⟨o,fun c u j F d=>⟨?_,by simp only[xC,r,v1]⟩⟩;have B:=j.new i y;obtain⟨t,m⟩:=F.new i B;have R:u=.slice none 0 0:=d;exact⟨by rw[R]; rfl,t,0,false,[],m,cZ _,fun _=>R.trans (afJ B).symm⟩
 |omp i =>
  simp only[iT] at e
  split at e<;>try (cases e; done)
  rename_i id
  split at e<;>try (cases e; done)
  rename_i k T es z;obtain⟨o,y,r,v1⟩:=lT e;refine⟨o,fun c u j F d=>⟨?_,by simp only[xC,r,v1]⟩⟩;have l:=j.bd i id y;have m:=F.at_ i id l;rw[z] at m;obtain⟨J,O,v2,Z,s,I⟩:=d;exact⟨J,k,T,es,m,I.trans (qN l).symm⟩
 |box i off =>
  simp only[iT] at e
  split at e<;>try (cases e; done)
  rename_i id N
  split at e<;>try (cases e; done)
  rename_i A
  split at e<;>try (cases e; done)
  rename_i cs z;obtain⟨o,y,r,v1⟩:=lT e;refine⟨o,fun c u j F d=>⟨?_,by simp only[xC,r,v1]⟩⟩;have l:=j.bd i id y;have m:=F.at_ i id l;rw[z] at m;obtain⟨L,m⟩:=m;obtain⟨cs',b,h1,h2,V⟩:=d;exact⟨L,b,m,(qN l).trans h2,by rw[eq_of_beq A]; exact V⟩
 |nils =>
  simp only[iT] at e
  split at e<;>try (cases e; done)
  cases e;exact⟨Ext.refl _,fun c u _ _ d=>⟨d,rfl⟩⟩
 |nilp =>
  simp only[iT] at e
  split at e<;>try (cases e; done)
  cases e;exact⟨Ext.refl _,fun c u _ _ d=>⟨d,rfl⟩⟩
 |nilfn =>
  simp only[iT] at e
  split at e<;>try (cases e; done)
  cases e;exact⟨Ext.refl _,fun c u _ _ d=>⟨d,rfl⟩⟩
 |yld =>
  simp only[iT] at e
  split at e<;>try (cases e; done)
  cases e;exact⟨Ext.refl _,fun c u _ _ d=>⟨d,rfl⟩⟩
 |fn f caps =>
  simp only[iT] at e
  split at e<;>try (cases e; done)
  rename_i Y vs
  split at e<;>try (cases e; done)
  rename_i K;obtain⟨o,r,v1,_⟩:=kR (ν:=ν) (w:=w) (h':=h') caps vs [] M M1 e;refine⟨o,fun c u j F d=>⟨?_,by simp only[xC,r,v1]⟩⟩;obtain⟨fs,cs,rfl,E,C⟩:=d;have:=(kR (ν:=ν) (w:=w) (h':=h') caps vs cs.toList M M1 e).2.2.2 c j F C;exact⟨fs,cs,by rw[eq_of_beq K],by rw[E.nil_left]; trivial,this⟩
 |fnd f ts =>
  simp only[iT] at e
  split at e<;>try (cases e; done)
  rename_i Y vs
  split at e<;>try (cases e; done)
  rename_i K;obtain⟨o,k⟩:=uB (ν:=ν) (h:=h) (w:=w) (h':=h') ts vs M M1 e;refine⟨o,fun c u j F d=>?_⟩;obtain⟨k1,O⟩:=k c j;obtain⟨fs,cs,rfl,E,C⟩:=d;exact⟨⟨fs,cs,by rw[eq_of_beq K],by rw[E.nil_left]; trivial,O cs.toList F C⟩,k1⟩
def MM {b M M1:Mt} (c:M1.cons=M.cons) (h2:M1.vars=M.vars):rest b M=rest b M1:=by simp only[rest,c,h2]
def wL {p:Pat} {v:AV} {M M1:Mt} (e:iT h p v M=some M1):Ext M M1/\∀b,Ext M1 b->(xC p (rest b M)).2=rest b M1:=by
 cases p with
 |any=>cases e; exact⟨Ext.refl _,fun b _=>rfl⟩
 |con t =>
  simp only[iT] at e
  split at e<;>try (cases e; done)
  rename_i x m;cases e;refine⟨⟨fun _ _ q=>q,fun _ q=>q,eo _ _,eF,fun _ q=>dO _ q,rfl⟩,fun b d=>?_⟩;have hd:=ŗ d.cons;simp only[rest,xC,hd]; simp
 |var t =>
  simp only[iT] at e
  split at e<;>try (cases e; done)
  rename_i x m;cases e;refine⟨⟨fun _ _ q=>q,fun _ q=>q,eF,eo _ _,fun _ q=>dO _ q,rfl⟩,fun b d=>?_⟩;have hd:=ŗ d.vars;simp only[rest,xC,hd]; simp
 |own i =>
  simp only[iT] at e
  split at e<;>try (cases e; done)
  ·split at e<;>try (cases e; done)
   split at e<;>try (cases e; done)
   obtain⟨c,l,j,v1⟩:=lT e;exact⟨c,fun b d=>MM j v1⟩
  ·obtain⟨c,l,j,v1⟩:=KE e;exact⟨c,fun b d=>MM j v1⟩
 |omp i =>
  simp only[iT] at e
  split at e<;>try (cases e; done)
  split at e<;>try (cases e; done)
  obtain⟨c,l,j,v1⟩:=lT e;exact⟨c,fun b d=>MM j v1⟩
 |box i off =>
  simp only[iT] at e
  split at e<;>try (cases e; done)
  split at e<;>try (cases e; done)
  split at e<;>try (cases e; done)
  obtain⟨c,l,j,v1⟩:=lT e;exact⟨c,fun b d=>MM j v1⟩
 |nils =>
  simp only[iT] at e
  split at e<;>try (cases e; done)
  cases e; exact⟨Ext.refl _,fun b _=>rfl⟩
 |nilp =>
  simp only[iT] at e
  split at e<;>try (cases e; done)
  cases e; exact⟨Ext.refl _,fun b _=>rfl⟩
 |nilfn =>
  simp only[iT] at e
  split at e<;>try (cases e; done)
  cases e; exact⟨Ext.refl _,fun b _=>rfl⟩
 |yld =>
  simp only[iT] at e
  split at e<;>try (cases e; done)
  cases e; exact⟨Ext.refl _,fun b _=>rfl⟩
 |fn f caps =>
  simp only[iT] at e
  split at e<;>try (cases e; done)
  rename_i o vs
  split at e<;>try (cases e; done)
  obtain⟨c,j,v1,_⟩:=kR (ν:=fun _=>undef) (w:=default) (h':=[]) caps vs [] M M1 e;exact⟨c,fun b d=>MM j v1⟩
 |fnd f ts =>
  simp only[iT] at e
  split at e<;>try (cases e; done)
  rename_i o vs
  split at e<;>try (cases e; done)
  obtain⟨c,k⟩:=uB (ν:=fun _=>undef) (h:=[]) (w:=default) (h':=[]) ts vs M M1 e;exact⟨c,fun b d=>(k b d).1⟩
def vW (p:Pat) (ps:CK Pat) (I:It):JC (p::ps) I=((xC p I).1::(JC ps (xC p I).2).1,(JC ps (xC p I).2).2):=rfl
def Eh:∀{ps:CK Pat} {vs:CK AV} {M M1:Mt},SO h ps vs M=some M1->Ext M M1/\∀b,Ext M1 b->(JC ps (rest b M)).2=rest b M1
 |[],vs,M,M1,e=>by cases e; exact⟨Ext.refl _,fun b _=>rfl⟩
 |p::ps,vs,M,M1,e=>by
  simp only[SO] at e
  split at e<;>try (cases e; done)
  rename_i k i;obtain⟨j,f⟩:=wL i;obtain⟨d,t2⟩:=Eh e;exact⟨j.trans d,fun b c=>by rw[vW,f b (d.trans c)]; exact t2 b c⟩
def XX (H:HR ν h w):∀{ps:CK Pat} {vs:CK AV} {M M1:Mt},SO h ps vs M=some M1->∀b,Ext M1 b->Fin ν h w b h'->∀f:Nat->Value,(∀k,VR ν h w (lk vs k) (f k)) ->
 ∀k,VR (νb b.bd ν) h' w (lk (JC ps (rest b M)).1 k) (f k)
 |[],vs,M,M1,e,b,_,_,f,_,k=>trivial
 |p::ps,vs,M,M1,e,b,c,F,f,d,k=>by
  simp only[SO] at e
  split at e<;>try (cases e; done)
  rename_i q i;obtain⟨o,l⟩:=wL i;obtain⟨j,t2⟩:=Eh e;rw[vW,l b (j.trans c)]
  cases k with
  |zero=>exact((Nl H i).2 b (f 0) (j.trans c) F (d 0)).1
  |succ k =>
   have m:∀k,lk vs.tail k=lk vs (k+1):=fun k=>by cases vs<;>rfl
   exact XX H e b c F (fun k=>f (k+1)) (fun k=>by rw[m]; exact d (k+1)) k
def qV:∀{ps:CK Pat} {vs:CK AV} {M M1:Mt},qE h ps vs M=some M1->Ext M M1/\∀b,Ext M1 b->(JC ps (rest b M)).2=rest b M1
 |[],[],M,M1,e=>by cases e; exact⟨Ext.refl _,fun b _=>rfl⟩
 |[],_::_,M,M1,e=>by cases e
 |_::_,[],M,M1,e=>by cases e
 |p::ps,v::vs,M,M1,e=>by
  simp only[qE] at e
  split at e<;>try (cases e; done)
  rename_i k i;obtain⟨j,f⟩:=wL i;obtain⟨d,t2⟩:=qV e;exact⟨j.trans d,fun b c=>by rw[vW,f b (d.trans c)]; exact t2 b c⟩
def aeL (p:Pat) (I:It):(xC p I).1.isAgg=false/\(xC p I).1.isTup=false:=by
 have b:∀d:DV,(aeX d).isAgg=false/\(aeX d).isTup=false:=fun d=>by
  obtain⟨t,x⟩:=d
  cases t<;>exact⟨rfl,rfl⟩
 cases p<;>simp only[xC]<;>try exact⟨rfl,rfl⟩
 ·split<;>first|exact b _|exact⟨rfl,rfl⟩
 ·split<;>first|exact b _|exact⟨rfl,rfl⟩
def FN (H:HR ν h w):∀{ps:CK Pat} {vs:CK AV} {us:CK Value} {M M1:Mt},qE h ps vs M=some M1->∀b,Ext M1 b->Fin ν h w b h'->ē (VRc ν h w) vs us ->
 ē (VRc (νb b.bd ν) h' w) (JC ps (rest b M)).1 us
 |[],[],us,M,M1,e,b,_,_,c=>by cases us with|nil=>trivial|cons=>exact c.elim
 |[],_::_,_,M,M1,e,_,_,_,_=>by cases e
 |_::_,[],_,M,M1,e,_,_,_,_=>by cases e
 |p::ps,v::vs,us,M,M1,e,b,f,F,c=>by
  simp only[qE] at e
  split at e<;>try (cases e; done)
  rename_i m i;obtain⟨l,k⟩:=wL i;obtain⟨j,t2⟩:=qV e;rw[vW,k b (j.trans f)]
  cases us with
  |nil=>exact c.elim
  |cons u us =>
   have h2:=((Nl H i).2 b u (j.trans f) F c.1.1.up).1;have d:=aeL p (rest b M);exact⟨⟨h2.one d.1 d.2,c.1.2⟩,FN H e b f F c.2⟩
def Mn (M:Mt) (d:DV):Ext M {M with cons:=M.cons++[d]}:=⟨fun _ _ q=>q,fun _ q=>q,eo _ _,eF,fun _ q=>q,rfl⟩
def Mm (M:Mt) (d:DV):Ext M {M with vars:=M.vars++[d]}:=⟨fun _ _ q=>q,fun _ q=>q,eF,eo _ _,fun _ q=>q,rfl⟩
def Nk {p:jh} {i:Nat} {M M1:Mt} (e:mr h p i M=some M1):Ext M M1/\∀c,Ext M1 c->(Cr p (rest c M)).2=rest c M1 /\
 ((∃id,mi M.bd i=some (.at_ id)/\kin (lkB h id) (Cr p (rest c M)).1)\/(mi M.bd i=some .new/\∃t,(Cr p (rest c M)).1=.row t 0 false [])):=by
 cases p with
 |dead =>
  simp only[mr] at e
  split at e<;>try (cases e; done)
  rename_i id hb
  split at e<;>try (cases e; done)
  rename_i d;cases e;exact⟨Ext.refl _,fun c _=>⟨rfl,.inl ⟨id,hb,by rw[d]; rfl⟩⟩⟩
 |cells ps =>
  simp only[mr] at e
  split at e<;>try (cases e; done)
  rename_i id hb
  split at e<;>try (cases e; done)
  rename_i cs d;obtain⟨q,l⟩:=qV e;exact⟨q,fun c b=>⟨l c b,.inl ⟨id,hb,by rw[d]; exact⟨_,rfl⟩⟩⟩⟩
 |rowc t =>
  simp only[mr] at e
  split at e<;>try (cases e; done)
  ·rename_i id hb
   split at e<;>try (cases e; done)
   rename_i f g xs d
   split at e<;>try (cases e; done)
   cases e;refine⟨Mn _ _,fun c b=>?_⟩;have hd:=ŗ b.cons;simp only[rest,Cr,hd];exact⟨by simp,.inl ⟨id,hb,by rw[d]; rfl⟩⟩
  ·rename_i hb;cases e;refine⟨Mn _ _,fun c b=>?_⟩;have hd:=ŗ b.cons;simp only[rest,Cr,hd];exact⟨by simp,.inr ⟨hb,t,rfl⟩⟩
 |rowf t g =>
  simp only[mr] at e
  split at e<;>try (cases e; done)
  rename_i id hb
  split at e<;>try (cases e; done)
  rename_i f g' xs d
  split at e<;>try (cases e; done)
  split at e<;>try (cases e; done)
  rename_i o _;subst o;cases e;refine⟨Mn _ _,fun c b=>?_⟩;have hd:=ŗ b.cons;simp only[rest,Cr,hd];exact⟨by simp,.inl ⟨id,hb,by rw[d]; rfl⟩⟩
 |rowv t =>
  simp only[mr] at e
  split at e<;>try (cases e; done)
  ·rename_i id hb
   split at e<;>try (cases e; done)
   rename_i f g xs d
   split at e<;>try (cases e; done)
   cases e;refine⟨Mm _ _,fun c b=>?_⟩;have hd:=ŗ b.vars;simp only[rest,Cr,hd];exact⟨by simp,.inl ⟨id,hb,by rw[d]; rfl⟩⟩
  ·rename_i hb;cases e;refine⟨Mm _ _,fun c b=>?_⟩;have hd:=ŗ b.vars;simp only[rest,Cr,hd];exact⟨by simp,.inr ⟨hb,t,rfl⟩⟩
 |mapc k v =>
  simp only[mr] at e
  split at e<;>try (cases e; done)
  rename_i id hb
  split at e<;>try (cases e; done)
  rename_i m j es d
  split at e<;>try (cases e; done)
  cases e;refine⟨Mn _ _,fun c b=>?_⟩;have hd:=ŗ b.cons;simp only[rest,Cr,hd];exact⟨by simp,.inl ⟨id,hb,by rw[d]; rfl⟩⟩
 |mapv k v =>
  simp only[mr] at e
  split at e<;>try (cases e; done)
  rename_i id hb
  split at e<;>try (cases e; done)
  rename_i m j es d
  split at e<;>try (cases e; done)
  cases e;refine⟨Mm _ _,fun c b=>?_⟩;have hd:=ŗ b.vars;simp only[rest,Cr,hd];exact⟨by simp,.inl ⟨id,hb,by rw[d]; rfl⟩⟩
 |acc t =>
  simp only[mr] at e
  split at e<;>try (cases e; done)
  rename_i id hb
  split at e<;>try (cases e; done)
  rename_i f xs d
  split at e<;>try (cases e; done)
  cases e;refine⟨Mm _ _,fun c b=>?_⟩;have hd:=ŗ b.vars;simp only[rest,Cr,hd];exact⟨by simp,.inl ⟨id,hb,by rw[d]; rfl⟩⟩
def ag0 (H:HR ν h w) {p:jh} {i id:Nat} {M M1:Mt} {cs:CK AV} (e:mr h p i M=some M1) (hb:mi M.bd i=some (.at_ id)) (b:lkB h id=.cells cs) {d:Mt} (j:Ext M1 d) (F:Fin ν h w d h') {us:CK Value} (f:ē (VRc ν h w) cs us) :
 ∃c,(Cr p (rest d M)).1=.cells c/\ē (VRc (νb d.bd ν) h' w) c us:=by
 cases p with
 |cells ps =>
  simp only[mr,hb,b] at e;exact⟨_,rfl,FN H e d j F f⟩
 |dead=>simp[mr,hb,b] at e
 |rowc t=>simp[mr,hb,b] at e
 |rowf t g=>simp[mr,hb,b] at e
 |rowv t=>simp[mr,hb,b] at e
 |mapc k v=>simp[mr,hb,b] at e
 |mapv k v=>simp[mr,hb,b] at e
 |acc t=>simp[mr,hb,b] at e
def JD (p:jh) (ps:CK jh) (I:It):HA (p::ps) I=((Cr p I).1::(HA ps (Cr p I).2).1,(HA ps (Cr p I).2).2):=rfl
def AM:∀(ps:CK jh) (I:It),(HA ps I).1.length=ps.length
 |[],_=>rfl
 |p::ps,I=>by rw[JD]; simp[AM ps]
def Ei:∀{ps:CK jh} {i:Nat} {M M1:Mt},SP h ps i M=some M1->Ext M M1/\∀b,Ext M1 b->∀k,k<ps.length ->
 (∃id,mi b.bd (i+k)=some (.at_ id)/\kin (lkB h id) (lkB (HA ps (rest b M)).1 k))\/(mi b.bd (i+k)=some .new/\∃t,lkB (HA ps (rest b M)).1 k=.row t 0 false [])
 |[],i,M,M1,e=>by cases e; exact⟨Ext.refl _,fun b _ k l=>by simp at l⟩
 |p::ps,i,M,M1,e=>by
  simp only[SP] at e
  split at e<;>try (cases e; done)
  rename_i u s;obtain⟨m,r⟩:=Nk s;obtain⟨d,t2⟩:=Ei e;refine⟨m.trans d,fun b c k l=>?_⟩;obtain⟨q,o⟩:=r b (d.trans c);rw[JD,q]
  cases k with
  |zero =>
   rcases o with⟨id,j,f⟩|⟨j,f⟩
   ·exact .inl ⟨id,(m.trans (d.trans c)).bd _ _ j,f⟩
   ·exact .inr ⟨(m.trans (d.trans c)).new _ j,f⟩
  |succ k =>
   have:=t2 b c k (by simpa using l);rw[show i+(k+1)=i+1+k by omega];exact this
def XY (H:HR ν h w):∀{ps:CK jh} {i:Nat} {M M1:Mt},SP h ps i M=some M1->∀c,Ext M1 c->Fin ν h w c h'->∀k id cs us,k<ps.length->mi c.bd (i+k)=some (.at_ id)->lkB h id=.cells cs->ē (VRc ν h w) cs us ->
 ∃f,lkB (HA ps (rest c M)).1 k=.cells f/\ē (VRc (νb c.bd ν) h' w) f us
 |[],i,M,M1,e,c,_,_,k,_,_,_,m,_,_,_=>by simp at m
 |p::ps,i,M,M1,e,c,d,F,k,id,cs,us,m,hb,q,o=>by
  simp only[SP] at e
  split at e<;>try (cases e; done)
  rename_i A r;obtain⟨s,x⟩:=Nk r;obtain⟨l,t2⟩:=Ei e;obtain⟨v,u⟩:=x c (l.trans d);rw[JD,v]
  cases k with
  |zero =>
   rcases u with⟨z,j,y⟩|⟨j,y⟩
   ·have:=(s.trans (l.trans d)).bd _ _ j;have b:mi c.bd i=some (.at_ id):=hb;rw[this] at b;cases b;exact ag0 H r j q (l.trans d) F o
   ·have:=(s.trans (l.trans d)).new _ j;have b:mi c.bd i=some (.at_ id):=hb;rw[this] at b;cases b
  |succ k=>exact XY H e c d F k id cs us (by simpa using m) (by rw[show i+1+k=i+(k+1) by omega]; exact hb) q o
def HF:∀{l:CK Bd} {i id:Nat},mi l i=some (.at_ id)->id∈LF l
 |[],_,_,h=>by cases h
 |x::l,0,id,h=>by
  simp only[mi,Option.some.injEq] at h;subst h; simp[LF]
 |x::l,i+1,id,h=>by
  have:=HF (l:=l) (i:=i) (id:=id) h
  cases x<;>simp[LF,this]
def KC:∀{l:CK Bd} {i j id:Nat},distinct (LF l)=true->mi l i=some (.at_ id)->mi l j=some (.at_ id)->i=j
 |[],_,_,_,_,h,_=>by cases h
 |x::l,0,0,_,_,_,_=>rfl
 |x::l,0,j+1,id,hd,b,h2=>by
  simp only[mi,Option.some.injEq] at b;subst b;simp only[LF,distinct,cY] at hd;have:=HF (l:=l) (i:=j) (id:=id) h2;simp[this] at hd
 |x::l,i+1,0,id,hd,b,h2=>by
  simp only[mi,Option.some.injEq] at h2;subst h2;simp only[LF,distinct,cY] at hd;have:=HF (l:=l) (i:=i) (id:=id) b;simp[this] at hd
 |x::l,i+1,j+1,id,hd,b,h2=>by
  have c:distinct (LF l)=true:=by
   cases x<;>simp only[LF,distinct,cY] at hd<;>first|exact hd|exact hd.2
  rw[KC (l:=l) c b h2]
def ad5 {pin n i:Nat} (hi:i<pin) (c:pin<=n):mi (D4 pin n) i=some (.at_ i):=by
 have key:∀(l:CK Bd) (k:Nat),mi l k=l[k]?:=by
  intro l
  induction l with
  |nil=>intro k; simp[mi]
  |cons x l b=>intro k; cases k with
   |zero=>rfl
   |succ k=>simpa[mi] using b k
 rw[key,D4,eW,gn (by omega)];simp[hi]
def TQ:∀{pin:Nat},aky h pin=true->∀i,i<pin->∀t g xs,lkB h i=.row t g false xs->g=0
 |0,_,i,hi,_,_,_,_=>by omega
 |pin+1,b,i,hi,t,g,xs,d=>by
  simp only[aky] at b
  split at b<;>try (cases b; done)
  rename_i c;rcases gW.1 hi with e|rfl
  ·exact TQ b i e t g xs d
  ·cases g with
   |zero=>rfl
   |succ g=>exact absurd d (c _ _ _)
def TD:∀(l:CK AV) (n k:Nat),lk (l++List.replicate n .any) k=lk l k
 |[],0,_=>rfl
 |[],n+1,0=>rfl
 |[],n+1,k+1=>by simpa[fT,lk] using TD [] n k
 |x::l,n,0=>rfl
 |x::l,n,k+1=>by simpa[lk] using TD l n k
def Kv:∀(ps:CK Pat) (I:It),(JC ps I).1.length=ps.length
 |[],_=>rfl
 |p::ps,I=>by rw[vW]; simp[Kv ps]
def L1:ajx:=by
 intro T pin cs vs S p v ν a w e H;unfold yi at e
 split at e<;>try (cases e; done)
 rename_i hc;simp only[cY,decide_eq_true_eq] at hc;obtain⟨c1,c2,c3,c4⟩:=hc
 split at e<;>try (cases e; done)
 rename_i N hL
 split at e<;>try (cases e; done)
 rename_i M hH
 split at e<;>try (cases e; done)
 rename_i hd;simp only[cY,dI] at hd;obtain⟨d1,d2⟩:=hd
 split at e<;>try (cases e; done)
 rename_i p' v' hp hv;cases e;have ep:aas cs p=M.cons:=abW cs _ _ hp;have ev:aas vs v=M.vars:=abW vs _ _ hv;obtain⟨eL,tL⟩:=Eh hL;obtain⟨Y,Z⟩:=Ei hH
 -- the state of the pattern
 have hI0:({cons:=aas cs p,vars:=aas vs v}:It)=rest M {bd:=D4 pin T.heap.length,cons:=[],vars:=[],freed:=[]}:=by
  simp[rest,ep,ev]
 have J:ú T cs vs p v={t:=(JC T.slots (rest M {bd:=D4 pin T.heap.length,cons:=[],vars:=[],freed:=[]})).1++List.replicate (T.n-T.slots.length) .any,h:=(HA T.heap (rest M N)).1}:=by
  unfold ú;rw[hI0];have:=tL M Y;show(St.mk _ _)=_;rw[show(JC T.slots (rest M {bd:=D4 pin T.heap.length,cons:=[],vars:=[],freed:=[]})).2=rest M N from this]
 rw[J]
 have q:M.bd.length=T.heap.length:=by rw[Y.len,eL.len]; simp[D4]
 have z:(HA T.heap (rest M N)).1.length=T.heap.length:=AM _ _
 have F:Fin ν S.h w M (HA T.heap (rest M N)).1:=by
  refine⟨fun i id hb=>?_,fun i hb=>?_,fun i h1 h2=>?_,fun id hid i hb=>?_,fun i j id=>KC d1⟩
  ·have hi:i<T.heap.length:=by rw[<-q]; exact Jy hb
   rcases Z M (Ext.refl _) i hi with⟨y,d,l⟩|⟨d,_⟩
   ·rw[dL,hb] at d; cases d; exact l
   ·rw[dL,hb] at d; cases d
  ·have hi:i<T.heap.length:=by rw[<-q]; exact Jy hb
   rcases Z M (Ext.refl _) i hi with⟨y,d,l⟩|⟨d,l⟩
   ·rw[dL,hb] at d; cases d
   ·exact l
  ·rcases dq i T.heap.length with hi|hi
   ·rcases Z M (Ext.refl _) i hi with⟨y,d,l⟩|⟨d,l⟩
    ·rw[dL] at d; exact absurd d (h1 y)
    ·rw[dL] at d; exact absurd d h2
   ·exact Y7 _ _ (by rw[z]; exact hi)
  ·have:=d2 id hid;have hm:=HF hb;simp[hm] at this
 have hHR:HR (νb M.bd ν) (HA T.heap (rest M N)).1 w:=by
  refine⟨fun i=>?_,fun i j b hi hj A hbj=>?_,H.heap.ghlt,fun i b r hb hg=>?_⟩
  rotate_left 2
  ·obtain⟨id,d,l⟩:=F.subL b ⟨i,r,hb⟩;exact H.heap.ghne id b d l hg
  ·cases hb:mi M.bd i with
   |none=>rw[F.out i (by simp[hb]) (by simp[hb])]; trivial
   |some x =>
    cases x with
    |open_=>rw[F.out i (by simp[hb]) (by simp[hb])]; trivial
    |new =>
     obtain⟨t,ht⟩:=F.new i hb;rw[ht];exact⟨none,0,afJ hb,cZ _,.inl ⟨rfl,rfl⟩⟩
    |at_ id =>
     have f:=F.at_ i id hb;have E:=H.heap.blk id
     cases r:lkB S.h id with
     |dead=>rw[r] at f; rw[show lkB _ i=_ from f]; trivial
     |cells c =>
      rw[r] at E;obtain⟨b,W,e',d,l,s⟩:=E
      have hi:i<T.heap.length:=by rw[<-q]; exact Jy hb
      obtain⟨cs',C,I⟩:=XY H.heap hH M (Ext.refl _) F i id c W.toList hi (by rw[dL]; exact hb) r s;rw[C];exact⟨b,W,e',(qN hb).trans d,l,I⟩
     |row t g fz xs =>
      rw[r] at f E
      cases fz with
      |true =>
       rw[show lkB _ i=_ from f];show CR w _ (.slice t) xs [_];rw[qN hb];exact CR.mono F.sub E
      |false =>
       rw[show lkB _ i=_ from f];obtain⟨base,cap,d,l,s⟩:=E;refine⟨base,cap,(qN hb).trans d,l,?_⟩;rcases s with s|⟨b,off,c,e',C,I,O,q7⟩
       ·exact .inl s
       ·refine .inr ⟨b,off,c,e',C,I,O,fun j x R=>?_⟩;obtain⟨us,q8,q9⟩:=q7 j x R;exact⟨us,CR.mono F.sub q8,q9⟩
     |map k u es =>
      rw[r] at f E;rw[show lkB _ i=_ from f];obtain⟨b,B,L,d,l,s,C⟩:=E;refine⟨b,B,L,(qN hb).trans d,l,s,fun j x R=>?_⟩;obtain⟨m,us,I,O,q7,q8⟩:=C j x R;exact⟨m,us,I,CR.mono F.sub O,CR.mono F.sub q7,q8⟩
     |acc t xs =>
      rw[r] at f E;rw[show lkB _ i=_ from f];obtain⟨us,d,l,s,C⟩:=E;refine⟨us,(qN hb).trans d,by rw[qN hb]; exact l,s,?_⟩;rw[qN hb];exact Ghost.st _ _ _ _ _ _ C ⟨rfl,rfl,rfl,cZ _,fun b _ hn R=>hn (F.sub b R),fun b o ho _ _=>ho,fun b o ho _ _=>ho⟩
  ·have V:∀i,(lkB (HA T.heap (rest M N)).1 i).live=true->Ŝ (νb M.bd ν i) b->∃id,mi M.bd i=some (.at_ id)/\(lkB S.h id).live=true/\Ŝ (ν id) b:=fun i hi A=>by
    cases hb:mi M.bd i with
    |none=>rw[F.out i (by simp[hb]) (by simp[hb])] at hi; cases hi
    |some x =>
     cases x with
     |open_=>rw[F.out i (by simp[hb]) (by simp[hb])] at hi; cases hi
     |new=>simp only[νb,hb] at A; cases A
     |at_ id =>
      refine⟨id,rfl,?_,by simpa[νb,hb] using A⟩;have f:=F.at_ i id hb
      cases U:lkB S.h id with
      |dead=>rw[U] at f; rw[show lkB _ i=_ from f] at hi; cases hi
      |cells=>rfl
      |map=>rfl
      |acc=>rfl
      |row t g fz xs =>
       cases fz with
       |false=>rfl
       |true=>rw[U] at f; rw[show lkB _ i=_ from f] at hi; cases hi
   obtain⟨id,d,l,s⟩:=V i hi A;obtain⟨y,C,I,O⟩:=V j hj hbj;have:=H.heap.inj id y b l I s O;subst this;exact F.inj i j id d C
 have G:∀i,i<pin->mi M.bd i=some (.at_ i):=fun i hi=>(eL.trans Y).bd i i (ad5 hi c1);refine⟨νb M.bd ν,⟨H.defers,?_,fun i=>?_,hHR⟩,⟨rfl,rfl,rfl,cZ _,fun b _ hb=>⟨rfl,fun hb'=>hb (F.subL b hb')⟩,fun i hi=>?_⟩,by rw[z]; exact c1,fun i hi K=>?_⟩
 ·have:=H.len;simp only[dc,fm,Kv];omega
 ·simp only[TD];exact XX H.heap hL M Y F (fun k=>a.tmps.getD k undef) (fun k=>H.tmps k) i
 ·have hb:=G i hi;have f:=F.at_ i i hb
  cases r:lkB S.h i with
  |dead=>trivial
  |cells c=>rw[r] at f; exact⟨f,qN hb⟩
  |row t g fz xs =>
   rw[r] at f
   cases fz with
   |true=>exact⟨g,true,xs,f,cZ _,fun _=>⟨qN hb,rfl⟩⟩
   |false =>
    have hg:=TQ c4 i hi t g xs r;exact⟨0,false,xs,f,by omega,fun _=>⟨qN hb,rfl⟩⟩
  |map k u es=>rw[r] at f; exact⟨⟨es,f⟩,qN hb⟩
  |acc t xs=>rw[r] at f; exact⟨xs,f⟩
 ·have f:=F.at_ i i (G i hi);rw[K] at f;exact f
end
end Go.Am
end

noncomputable section
namespace Go.Am
variable [Ghost]
section
variable {ρ:Type} {ν ν':Nat->Value} {h h':CK Blk} {w w':World} {P:Program}
def me (w:World) (G:Nat->Prop) (t:Ty) (x:Val t) (v:Value):Prop:=∃us,CR w G t x us/\v=yM t us
def AT (w:World) (G:Nat->Prop):(l:CK Ty)->(t:Ty)->Val (tys t l)->CK Value->Prop
 |[],t,x,vs=>∃v,vs=[v]/\me w G t x v
 |u::l,t,x,vs=>∃v b,vs=v::b/\me w G t (x:Val t×Val (tys u l)).1 v/\AT w G l u (x:Val t×Val (tys u l)).2 b
def AL (w:World) (G:Nat->Prop):(l:CK Ty)->Val (tyL l)->CK Value->Prop
 |[],_,vs=>vs=[]
 |t::l,x,vs=>AT w G l t x vs
def RR (w:World) (G:Nat->Prop):(l:CK Ty)->Val (tyL l)->Value->Prop
 |[],_,u=>u=.tuple #[]
 |[t],x,u=>me w G t x u
 |t::u'::l,x,u=>∃vs,u=.tuple vs/\AT w G (u'::l) t x vs.toList
def iU (P:Program) (f:Nat) (p:ý):Prop :=
 ∀(G:Nat->Prop) (x:Val (tyL p.ts)) (y:Val (tyL p.rs)),p.F x=some y->∀(w:World) (vals:CK Value),(∀b,G b->b<w.heap.size)->AL w G p.ts x vals ->
  (∃fn c,P.funcs[f]?=some fn/\fn.body=some c) /\
  CallsIn Fence.wide 0 P f vals.toArray w fun e w'=>∃u,e=.returned u/\RR w' G p.rs y u/\(∀b,b<w.heap.size->w'.heap[b]?=w.heap[b]?)/\w.heap.size<=w'.heap.size/\w'.os=w.os/\w'.tape=w.tape/\w'.output=w.output
def V5 {a:AV} {vs:CK AV} (e:š a=some vs):mT a=vs:=by
 cases a<;>simp only[š,Option.some.injEq,reduceCtorEq] at e<;>exact e
def A7 {G:Nat->Prop} {t:Ty} {x:Val t} {a:AV} {v:Value} {vs:CK AV} (d:(TJ a==t.isAgg)=true) (i:š a=some vs) (j:VR ν h w a v)
 (r:∀c∈mT a,∀u,VR1 ν h w c u->VRs w G (ā h c) u) (e:Ü t (vs.map (ā h))=some x):me w G t x v:=by
 have f:=j.cells i;have h2:ē (VRs w G) (vs.map (ā h)) v.cells.toList:=ē.map_left (aux vs _ f fun c o u k=>r c (by rw[V5 i]; exact o) u k.1);refine⟨_,Ģ e h2,?_⟩
 cases ha:a.isAgg with
 |true =>
  cases a<;>try cases ha
  obtain⟨us,rfl,_⟩:=j
  have:t.isAgg=true:=by simpa[TJ] using d
  simp[yM,this,Value.cells]
 |false =>
  have s:TJ a=false:=by cases a<;>first|rfl|cases ha
  have m:t.isAgg=false:=by rw[s] at d; simpa using d
  have l:a.isTup=false:=by cases a<;>first|rfl|cases i
  have y:=(j.one ha l).oneCell i;simp[yM,m,P2 y]
where
 aux {w:World} {G:Nat->Prop} {ν:Nat->Value} {h:CK Blk} (vs:CK AV) (us:CK Value) (f:ē (VRc ν h w) vs us) (p:∀c∈vs,∀u,VRc ν h w c u->VRs w G (ā h c) u):ē (fun c b=>VRs w G (ā h c) b) vs us:=by
  induction vs generalizing us with
  |nil=>cases us with
   |nil=>trivial
   |cons=>exact f.elim
  |cons c vs q=>cases us with
   |nil=>exact f.elim
   |cons u us=>exact⟨p c (by simp) u f.1,q us f.2 fun c o u k=>p c (by simp[o]) u k⟩
def Wn (H:HR ν h w) {G:Nat->Prop} {t:Ty} {x:Val t} {a:AV} {v:Value} (l:VR ν h w a v)
 (A:∀c∈mT a,∀u,VR1 ν h w c u->VRs w G (ā h c) u) (hb:∀id cs,a=.box id 0->lkB h id=.cells cs->(∀b,Ŝ (ν id) b->¬G b)/\∀c∈cs,∀u,VR1 ν h w c u->VRs w G (ā h c) u) (e:alg h t a=some x):me w G t x v:=by
 cases z:(match t with|.ptr _=>true|_=>false) with
 |false =>
  have f:(match TJ a==t.isAgg with|true=>(match š (ab1 h a) with|some cs=>Ü t cs|none=>none)|false=>none)=some x:=by
   cases t<;>first|exact e|cases z
  split at f<;>try (cases f; done)
  rename_i q
  split at f<;>try (cases f; done)
  rename_i cs d;obtain⟨vs,k,rfl⟩:=IJ d;exact A7 q k l A f
 |true =>
  cases t<;>try cases z
  rename_i u;simp only[alg] at e
  split at e<;>try (cases e; done)
  ·rename_i id
   split at e<;>try (cases e; done)
   rename_i cs B;obtain⟨K,b,k,h2,s⟩:=l.one rfl rfl;have C:=H.blk id;rw[B] at C;obtain⟨N,c,f,j,i,r⟩:=C;rw[h2] at j; cases j;obtain⟨J,d⟩:=hb id cs rfl B;have p:CR w G u x c.toList:=Ģ e (ē.map_left (A7.aux cs _ r fun c I u E=>d c I u E.1));refine⟨[v],⟨b,0,c.toList,by rw[s],J b (by rw[h2]; rfl),ĥ i,p,CellsAt.of_cells i⟩,rfl⟩
  ·rename_i L y
   split at e<;>try (cases e; done)
   rename_i m _;subst m;cases e;have k:=A _ (by simp[mT]) v (l.one rfl rfl);obtain⟨b,o,us,h2,s,j,i,r⟩:=k;exact⟨[v],⟨b,o,us,by rw[h2]; rfl,s,j,i,r⟩,rfl⟩
def Ql (H:HR ν h w) {G:Nat->Prop}:∀(l:CK Ty) (t:Ty) (x:Val (tys t l)) (as:CK AV) (vs:CK Value),ē (VR ν h w) as vs ->
 (∀a∈as,∀c∈mT a,∀u,VR1 ν h w c u->VRs w G (ā h c) u)->(∀a∈as,∀id cs,a=.box id 0->lkB h id=.cells cs->(∀b,Ŝ (ν id) b->¬G b)/\∀c∈cs,∀u,VR1 ν h w c u->VRs w G (ā h c) u)->Wm h l t as=some x->AT w G l t x vs
 |[],t,x,[],vs,_,_,_,e=>by cases e
 |[],t,x,[a],vs,d,f,hb,e=>by
  obtain⟨v,rfl,k⟩:=d.one;exact⟨v,rfl,Wn H k (f a (by simp)) (hb a (by simp)) e⟩
 |[],t,x,_::_::_,vs,_,_,_,e=>by cases e
 |u::l,t,x,[],vs,_,_,_,e=>by cases e
 |u::l,t,x,a::as,[],d,_,_,e=>d.elim
 |u::l,t,x,a::as,v::vs,d,f,hb,e=>by
  simp only[Wm] at e
  split at e<;>try (cases e; done)
  rename_i y j
  split at e<;>try (cases e; done)
  rename_i z i;cases e;exact⟨v,vs,rfl,Wn H d.1 (f a (by simp)) (hb a (by simp)) j,Ql H l u z as vs d.2 (fun a ha=>f a (by simp[ha])) (fun a ha=>hb a (by simp[ha])) i⟩
def Ir (H:HR ν h w) {G:Nat->Prop} {l:CK Ty} {x:Val (tyL l)} {as:CK AV} {vs:CK Value} (d:ē (VR ν h w) as vs)
 (f:∀a∈as,∀c∈mT a,∀u,VR1 ν h w c u->VRs w G (ā h c) u) (hb:∀a∈as,∀id cs,a=.box id 0->lkB h id=.cells cs->(∀b,Ŝ (ν id) b->¬G b)/\∀c∈cs,∀u,VR1 ν h w c u->VRs w G (ā h c) u) (e:E7 h l as=some x):AL w G l x vs:=by
 cases l with
 |nil=>cases as with
  |nil=>exact d.nil_left
  |cons=>cases e
 |cons t l=>exact Ql H l t x as vs d f hb e
def me.mono {G G':Nat->Prop} (d:∀b,G' b->G b) {t:Ty} {x:Val t} {v:Value} (c:me w G t x v):me w G' t x v:=by
 obtain⟨us,e,h2⟩:=c;exact⟨us,CR.mono d e,h2⟩
def JF {av f:Nat->Prop}:∀{t:Ty} {x:Val t} {us:CK Value},(flat t x).all CA=true->CR w av t x us->CR w f t x us
 |.unit,_,_,_,d=>d
 |.bool,_,_,_,d=>d
 |.int _,_,_,_,d=>d
 |.str,_,_,_,d=>d
 |.slice _,_,_,c,_=>by simp[flat,CA] at c
 |.map _ _,_,_,c,_=>by simp[flat,CA] at c
 |.ptr _,_,_,c,_=>by simp[flat,CA] at c
 |.pair a b,x,us,c,d=>by
  simp only[flat,List.all_append,cY] at c;obtain⟨u1,u2,e,i,h2⟩:=d;exact⟨u1,u2,e,JF c.1 i,JF c.2 h2⟩
def ah1 {t:Ty} {x:Val t} (b:plain (enc t x)=true):(flat t x).all CA=true:=by
 cases t<;>first|exact b|(simp only[enc,plain,CA] at b; simp[flat,CA])|(simp[enc,plain,CA] at b)
def me.plain {G G':Nat->Prop} {t:Ty} {x:Val t} {v:Value} (c:plain (enc t x)=true) (b:me w G t x v):me w G' t x v:=by
 obtain⟨us,d,h2⟩:=b;exact⟨us,JF (ah1 c) d,h2⟩
def AT.plain {G G':Nat->Prop}:∀{l:CK Ty} {t:Ty} {x:Val (tys t l)} {vs:CK Value},(ah2 l t x).all Go.Am.plain=true->AT w G l t x vs->AT w G' l t x vs
 |[],t,x,vs,b,⟨v,c,h2⟩=>⟨v,c,h2.plain (by simpa[ah2] using b)⟩
 |u::l,t,x,vs,b,⟨v,vs',c,h2,d⟩=>by
  simp only[ah2,fP,cY] at b;exact⟨v,vs',c,h2.plain b.1,AT.plain b.2 d⟩
def Xe {v:AV} (b:v.isTup=false):MU v=Go.Am.plain v:=by cases v<;>first|rfl|cases b
def JM {t:Ty} {x:Val t}:(enc t x).isTup=false:=by cases t<;>rfl
def RR.plain {G G':Nat->Prop}:∀{l:CK Ty} {x:Val (tyL l)} {u:Value},MU (Z4 l x)=true->RR w G l x u->RR w G' l x u
 |[],_,_,_,h=>h
 |[t],x,u,b,h=>me.plain ((Xe (JM (t:=t) (x:=x))).symm.trans b) h
 |t::u'::l,x,u,b,⟨vs,c,h2⟩=>⟨vs,c,h2.plain b⟩
def me.VR {t:Ty} {x:Val t} {v:Value} (b:me w (Av ν h) t x v):VR ν h w (enc t x) v:=by
 obtain⟨us,c,rfl⟩:=b;exact KB c
def AT.VR:∀{l:CK Ty} {t:Ty} {x:Val (tys t l)} {vs:CK Value},AT w (Av ν h) l t x vs->ē (VR ν h w) (ah2 l t x) vs
 |[],t,x,_,⟨v,rfl,h2⟩=>⟨h2.VR,trivial⟩
 |u::l,t,x,_,⟨v,vs',rfl,h2,b⟩=>⟨h2.VR,AT.VR b⟩
def PS:∀{l:CK Ty} {t:Ty} {x:Val (tys t l)},∀a∈ah2 l t x,a.isTup=false
 |[],t,x,a,b=>by simp only[ah2,dj] at b; rw[b]; exact JM
 |u::l,t,x,a,b=>by
  simp only[ah2,dh] at b;rcases b with rfl|b
  ·exact JM
  ·exact PS a b
def ē.VR2:∀{as:CK AV} {vs:CK Value},ē (VR ν h w) as vs->(∀a∈as,a.isTup=false)->ē (VR2 ν h w) as vs
 |[],[],_,_=>trivial
 |a::as,v::vs,b,c=>⟨by rw[<-yI (c a (by simp))]; exact b.1,ē.VR2 b.2 fun a ha=>c a (by simp[ha])⟩
 |[],_::_,b,_=>b.elim
 |_::_,[],b,_=>b.elim
def RR.VR:∀{l:CK Ty} {x:Val (tyL l)} {u:Value},RR w (Av ν h) l x u->VR ν h w (Z4 l x) u
 |[],_,_,h=>by cases h; exact⟨#[],rfl,trivial⟩
 |[t],x,u,h=>me.VR h
 |t::u'::l,x,u,⟨vs,b,h2⟩=>⟨vs,b,ē.VR2 h2.VR PS⟩
def IA (P:Program) (g:Nat) (ν:Nat->Value) (h:CK Blk) (w:World) (vals:CK Value) (K:AV->CK Blk->BY ρ) (r:ρ):Prop :=
 (∃fn c,P.funcs[g]?=some fn/\fn.body=some c) /\
 CallsIn Fence.wide 0 P g vals.toArray w fun e w'=>∃ν' h' v u,e=.returned u/\VR ν' h' w' v u/\HR ν' h' w'/\Ev h.length ν h w ν' h' w'/\h.length<=h'.length/\(∀j,j<h.length->lkB h j=.dead->lkB h' j=.dead)/\K v h'=some r
def adi {c:AV} {u:Value}:∀{as:CK AV} {h:CK Blk},HR ν h w->c∈as->Nb c=true->VR1 ν h w c u->VRs w (Av ν (Cs h as)) (ā h c) u
 |[],_,_,b,_,_=>by cases b
 |a::as,h,H,b,e,d=>by
  obtain⟨i,f,j⟩:=Py H a;rcases dh.1 b with rfl|b
  ·exact VRs.mono ((EY as f).2.2) (Px H d e)
  ·have:=adi (as:=as) f b e (d.ev i)
   rwa [IK] at this
def aef {f:Nat} {p:ý} (V:iU P f p) {b:Bool} {d:CK AV} {K:AV->CK Blk->BY ρ} {r:ρ} (e:Uu b p h d K=some r) (H:HR ν h w) {vals:CK Value} (E:ē (VR ν h w) d vals):IA P f ν h w vals K r:=by
 unfold Uu at e
 split at e<;>try (cases e; done)
 rename_i x C;simp only[Ä] at e
 split at e<;>try (cases e; done)
 rename_i y T
 -- the call, with what may not be touched
 have call:∀(G:Nat->Prop),(∀b,G b->b<w.heap.size)->AL w G p.ts x vals->∀(h':CK Blk),HR ν h' w->Ev h.length ν h w ν h' w->h.length<=h'.length->(∀j,j<h.length->lkB h j=.dead->lkB h' j=.dead) ->
  (∀w' u,RR w' G p.rs y u->RR w' (Av ν h') p.rs y u)->K (Z4 p.rs y) h'=some r->IA P f ν h w vals K r:=by
  intro G Z N h' B ev W q I Y;obtain⟨h1,h2⟩:=V G x y T w vals Z N;refine⟨h1,h2.mono fun e w' U=>?_⟩;obtain⟨u,rfl,g1,g2,g3,g4,g5,g6⟩:=U;obtain⟨O,R⟩:=B.grow g2 g3 g4 g5 g6 h.length;exact⟨ν,h',_,u,rfl,(I w' u g1).VR,R,ev.trans O (cZ _),W,q,Y⟩
 split at e
 ·rename_i J;exact call (fun _=>False) (fun _ L=>L.elim) (Ir H E (fun a _ c _ u m=>Fp H m) (fun _ _ _ _ _ _=>⟨fun _ _ L=>L,fun c _ u m=>Fp H m⟩) C) h H (Ev.refl _ _ _ _) (cZ _) (fun _ _ hd=>hd) (fun w' u v=>v.plain J) e
 ·split at e
  ·rename_i z
   have i:∀a∈d,Qn a=false:=fun a ha=>by have:=dI.1 z a ha; simpa using this
   refine call (Av ν h) (fun b hb=>H.ltA hb) (Ir H E (fun a ha c k u m=>?_) (fun a ha id cs o _=>?_) C) h H (Ev.refl _ _ _ _) (cZ _) (fun _ _ hd=>hd) (fun w' u v=>v) e
   ·have s:E9 c=false:=by
     have:=i a ha
     cases a<;>first
      |(simp only[mT,dj] at k; subst k; exact this)
      |(simp only[mT] at k; simp only[Qn,eh] at this; simpa using this c k)
    have:ā h c=c:=by cases c<;>first|rfl|cases s
    rw[this]; exact m.data
   ·subst o; cases i _ ha
  ·split at e<;>try (cases e; done)
   rename_i A;simp only[gK,fp] at A;have l:∀a∈d,agQ a=true:=dI.1 A.2;obtain⟨ev,B,S⟩:=EY (d.flatMap mT) H;refine call (Av ν (Cs h (d.flatMap mT))) (fun b hb=>B.ltA hb) (Ir H E (fun a ha c k u m=>?_) (fun a ha id cs o _=>?_) C) _ B ev (by rw[υ]; exact cZ _) (fun _ _ hd=>Pv _ hd) (fun w' u v=>v) e
   ·refine adi H (dD.2 ⟨a,ha,k⟩) ?_ m;have:=l a ha
    have s:agP c=true:=by
     cases a<;>first
      |(simp only[mT,dj] at k; subst k; exact this)
      |(simp only[mT] at k; simp only[agQ,dI] at this; exact this c k)
    cases c<;>first|rfl|cases s
   ·subst o; cases l _ ha
end
end Go.Am
end

noncomputable section
namespace Go.Am
section
variable {w w':World} {X X':Nat->Prop}
structure alA (w:World) (X:Nat->Prop) (w':World) (X':Nat->Prop):Prop where
 size:w.heap.size<=w'.heap.size
 av:∀b,b<w.heap.size->¬X b->¬X' b
 dat:∀(b:Nat) (o:Obj),w.heap[b]?=some o->SI o=true->¬X b->w'.heap[b]?=some o
def akU {w:World} {a:Addr} {v:Value} (h:w.cell? a=some v):∃o,w.heap[a.block]?=some o/\SI o=true/\∀w':World,w'.heap[a.block]?=some o->w'.cell? a=some v:=by
 unfold World.cell? at h
 split at h<;>try (cases h; done)
 rename_i c e r hb;exact⟨_,hb,rfl,fun w' h'=>by unfold World.cell?; rw[h']; exact h⟩
def CellsAt.kx (K:alA w X w' X') {b off:Nat} {vs:CK Value} (hb:¬X b) (h:CellsAt w b off vs):CellsAt w' b off vs:=fun j v c=>by
 obtain⟨o,e,h2,d⟩:=akU (h j v c);exact d w' (K.dat b o e h2 hb)
def CR.kx (K:alA w X w' X'):∀{t:Ty} {x:Val t} {vs:CK Value},CR w X t x vs->CR w' X' t x vs
 |.unit,_,_,h=>h
 |.bool,_,_,h=>h
 |.int _,_,_,h=>h
 |.str,_,_,h=>h
 |.slice t,xs,vs,h=>by
  obtain⟨base,cap,e,s,h⟩:=h;refine⟨base,cap,e,s,?_⟩;rcases h with h|⟨b,off,hb,c,d,h⟩
  ·exact .inl h
  ·refine .inr ⟨b,off,hb,K.av b d c,dz d K.size,fun i x j=>?_⟩;obtain⟨us,f,h2⟩:=h i x j;exact⟨us,CR.kx K f,h2.kx K c⟩
 |.map k v,es,vs,h=>by
  obtain⟨r,e,h⟩:=h;refine⟨r,e,?_⟩;rcases h with h|⟨b,entries,clock,q,c,l,p,h⟩
  ·exact .inl h
  ·refine .inr ⟨b,entries,clock,q,K.av b (ĥ l) c,K.dat b _ l rfl c,p,fun i x j=>?_⟩;obtain⟨m,us,f,h2,y,u⟩:=h i x j;exact⟨m,us,f,CR.kx K h2,CR.kx K y,u⟩
 |.ptr t,x,vs,h=>by
  obtain⟨b,off,us,e,c,d,f,h2⟩:=h;exact⟨b,off,us,e,K.av b d c,dz d K.size,CR.kx K f,h2.kx K c⟩
 |.pair a b,x,vs,h=>by
  obtain⟨us,o,e,f,h2⟩:=h;exact⟨us,o,e,CR.kx K f,CR.kx K h2⟩
end
section
variable {g:Ghost} {G':Nat->Prop} {D:CK Deferred} {Q:BY Nat} {M:Nat} {ν:Nat->Value} {h:CK Blk} {w w':World}
structure m9 (g:Ghost) (ν:Nat->Value) (h:CK Blk) (w:World) (G':Nat->Prop) (w':World):Prop where
 os:w'.os=w.os
 tape:w'.tape=w.tape
 output:w'.output=w.output
 size:w.heap.size<=w'.heap.size
 av:∀b,b<w.heap.size->¬@Av g ν h b->¬G' b
 dat:∀(b:Nat) (o:Obj),w.heap[b]?=some o->SI o=true->(@Av g ν h b->Fg ν h b)->w'.heap[b]?=some o
 nd:∀(b:Nat) (o:Obj),w.heap[b]?=some o->SI o=false->b<g.B->w'.heap[b]?=some o
def m9.kx (K:m9 g ν h w G' w'):alA w (@Av g ν h) w' (@Av (g.re G' D Q M) ν h) :=
 ⟨K.size,fun b hb c d=>d.elim (fun f=>c (.inl f)) (K.av b hb c),fun b o hb e c=>K.dat b o hb e fun d=>absurd d c⟩
def VR0.step (K:m9 g ν h w G' w') {a:AV} {v:Value} (c:@VR0 g ν h w a v):@VR0 (g.re G' D Q M) ν h w' a v:=by
 cases a with
 |slc t xs=>exact CR.kx (m9.kx (D:=D) (Q:=Q) (M:=M) K) (t:=.slice t) c
 |mp k t es=>exact CR.kx (m9.kx (D:=D) (Q:=Q) (M:=M) K) (t:=.map k t) c
 |eptr t x off =>
  obtain⟨b,o,us,j,h2,e,i,f⟩:=c;have d:=m9.kx (D:=D) (Q:=Q) (M:=M) K;exact⟨b,o,us,j,d.av b e h2,dz e K.size,CR.kx d i,f.kx d h2⟩
 |_=>exact c
def VR1.step (K:m9 g ν h w G' w') {a:AV} {v:Value} (b:@VR1 g ν h w a v):@VR1 (g.re G' D Q M) ν h w' a v:=by
 cases c:a.isFn with
 |true =>
  cases a<;>try cases c
  obtain⟨fs,cs,e,h2,d⟩:=b;exact⟨fs,cs,e,h2.mono fun _ _=>VR0.step K,d.mono fun _ _=>VR0.step K⟩
 |false =>
  rw[@yy (g.re G' D Q M) _ _ _ _ _ c];rw[@yy g _ _ _ _ _ c] at b;exact VR0.step K b
def VRc.step (K:m9 g ν h w G' w') {a:AV} {v:Value} (b:@VRc g ν h w a v):@VRc (g.re G' D Q M) ν h w' a v:=⟨VR1.step K b.1,b.2⟩
def VR2.step (K:m9 g ν h w G' w') {a:AV} {v:Value} (b:@VR2 g ν h w a v):@VR2 (g.re G' D Q M) ν h w' a v:=by
 cases c:a.isAgg with
 |true =>
  cases a<;>try cases c
  obtain⟨vs,d,h2⟩:=b;exact⟨vs,d,h2.mono fun _ _=>VRc.step K⟩
 |false =>
  rw[@Ba (g.re G' D Q M) _ _ _ _ _ c];rw[@Ba g _ _ _ _ _ c] at b;exact VR1.step K b
def VR.step (K:m9 g ν h w G' w') {a:AV} {v:Value} (b:@VR g ν h w a v):@VR (g.re G' D Q M) ν h w' a v:=by
 cases c:a.isTup with
 |true =>
  cases a<;>try cases c
  obtain⟨vs,d,h2⟩:=b;exact⟨vs,d,h2.mono fun _ _=>VR2.step K⟩
 |false =>
  rw[@yI (g.re G' D Q M) _ _ _ _ _ c];rw[@yI g _ _ _ _ _ c] at b;exact VR2.step K b
def HR.step (K:m9 g ν h w G' w') (G:∀b,G' b->b<w'.heap.size) (E:∀b,Fg ν h b->¬G' b) (H:@HR g ν h w):@HR (g.re G' D Q M) ν h w':=by
 have B:alA w (@Av g ν h) w' (@Av (g.re G' D Q M) ν h):=m9.kx K;have live:∀(id b:Nat) (o:Obj),(lkB h id).live=true->Ŝ (ν id) b->w.heap[b]?=some o->SI o=true->w'.heap[b]?=some o:=fun id b o l C hb hd=>K.dat b o hb hd fun _=>⟨id,l,C⟩;refine @HR.mk (g.re G' D Q M) ν h w' (fun id=>?_) (@HR.inj g _ _ _ H) G (fun id b l hb=>E b ⟨id,l,hb⟩);have p:=@HR.blk g _ _ _ H id;have d:=live id
 cases l:lkB h id with
 |dead=>trivial
 |cells cs =>
  rw[l] at p d;obtain⟨b,c,e,j,h2,q⟩:=p;exact⟨b,c,e,j,d b _ rfl (by rw[j]; rfl) h2 rfl,q.mono fun _ _=>VRc.step K⟩
 |row t g' fz xs =>
  rw[l] at p d
  cases fz with
  |true=>exact CR.kx B (t:=.slice t) p
  |false =>
   obtain⟨base,cap,j,h2,q⟩:=p;refine⟨base,cap,j,h2,?_⟩;rcases q with q|⟨b,off,c,e,u,I,R,O⟩
   ·exact .inl q
   ·have A:=d b _ rfl (by rw[j,u]; rfl) I rfl;refine .inr ⟨b,off,c,e,u,A,R,fun i x z=>?_⟩;obtain⟨us,y,s⟩:=O i x z;exact⟨us,CR.kx B y,s.keep (A.trans I.symm)⟩
 |map k v es =>
  rw[l] at p d;obtain⟨b,f,r,j,h2,q,u⟩:=p;refine⟨b,f,r,j,d b _ rfl (by rw[j]; rfl) h2 rfl,q,fun i x z=>?_⟩;obtain⟨m,us,y,s,L,J⟩:=u i x z;exact⟨m,us,y,CR.kx B s,CR.kx B L,J⟩
 |acc t xs =>
  rw[l] at p d;obtain⟨us,j,h2,q,u⟩:=p;refine⟨us,j,fun b hb=>?_,q,?_⟩
  ·obtain⟨o,y,s⟩:=h2 b hb;exact⟨o,d b o rfl hb y s,s⟩
  ·refine g.st _ _ _ _ _ _ u ⟨K.os,K.tape,K.output,K.size,B.av,fun b o hb C z=>K.dat b o hb C fun N=>⟨id,by rw[l]; rfl,z N⟩,K.nd⟩
def HR.re (H:@HR g ν h w):@HR (g.re g.G D Q M) ν h w:=@HR.mk (g.re g.G D Q M) ν h w (@HR.blk g ν h w H) (@HR.inj g ν h w H) (@HR.ghlt g ν h w H) (@HR.ghne g ν h w H)
def HR.er (H:@HR (g.re g.G D Q M) ν h w):@HR g ν h w:=@HR.mk g ν h w (@HR.blk (g.re g.G D Q M) ν h w H) (@HR.inj (g.re g.G D Q M) ν h w H) (@HR.ghlt (g.re g.G D Q M) ν h w H) (@HR.ghne (g.re g.G D Q M) ν h w H)
def m9.less {G':Nat->Prop} (e:∀b,G' b->g.G b):m9 g ν h w G' w:=⟨rfl,rfl,rfl,cZ _,fun b _ c d=>c (.inr (e b d)),fun b o hb _ _=>hb,fun b o hb _ _=>hb⟩
def m9.nds (c:w'.os=w.os) (f:w'.tape=w.tape) (j:w'.output=w.output) (i:w.heap.size<=w'.heap.size) (e:∀(b:Nat) (o:Obj),w.heap[b]?=some o->SI o=true\/b<g.B->w'.heap[b]?=some o):m9 g ν h w g.G w' :=
 ⟨c,f,j,i,fun b _ k l=>k (.inr l),fun b o hb hd _=>e b o hb (.inl hd),fun b o hb _ d=>e b o hb (.inr d)⟩
end
end Go.Am
end

noncomputable section
namespace Go.Am
variable [Ghost]
section
variable {ρ:Type} {ν ν':Nat->Value} {h h':CK Blk} {w w':World} {P:Program}
def SK {v b:AV} (e:aka v=some b):b=v/\v.isTup=false:=by
 cases v<;>simp only[aka,Option.some.injEq,reduceCtorEq] at e<;>exact⟨e.symm,rfl⟩
def aec {S:St} {a:Act} (H:Sim ν S a w) {rv:ResultVar} {v:AV} (e:aai P S.h S.t rv=some v) :
 ∃u,(match rv with|.tmp t=>(pure (a.tmps.getD t undef):Sem Value)|.cell x t=>do loadVar t (<-asAddr (a.tmps.getD x undef))).run P w=.ok u w/\VR2 ν S.h w v u:=by
 cases rv with
 |tmp i =>
  obtain⟨rfl,d⟩:=SK e;have:=H.tmps i;rw[yI d] at this;exact⟨_,rfl,this⟩
 |cell x t =>
  simp only[aai] at e
  split at e<;>try (cases e; done)
  rename_i j f;obtain⟨rfl,d⟩:=SK e;obtain⟨u,b,h2⟩:=ahv H.heap f (H.tmps x);rw[yI d] at h2;refine⟨u,?_,h2⟩;simp only[Instr.loadAt] at b
  cases c:a.tmps.getD x undef with
  |pointer p =>
   rw[c] at b
   cases p with
   |none=>simp[Instr.sureAddr] at b
   |some k =>
    show(do loadVar t (<-asAddr (a.tmps.getD x undef)):Sem Value).run P w=_;rw[c];simpa[Instr.sureAddr,asAddr] using b
  |_=>rw[c] at b; simp[Instr.sureAddr] at b
def Sg {S:St} {a:Act} (H:Sim ν S a w):∀{rs:CK ResultVar} {vs:CK AV},MN P S.h S.t rs=some vs ->
 ∃us:CK Value,(rs.mapM (m:=Sem) fun|.tmp t=>pure (a.tmps.getD t undef)|.cell x t=>do loadVar t (<-asAddr (a.tmps.getD x undef))).run P w=.ok us w/\ē (VR2 ν S.h w) vs us
 |[],vs,e=>by cases e; exact⟨[],rfl,trivial⟩
 |rv::rs,vs,e=>by
  simp only[MN] at e
  split at e<;>try (cases e; done)
  rename_i v d
  split at e<;>try (cases e; done)
  rename_i c b;cases e;obtain⟨u,j,h2⟩:=aec H d;obtain⟨us,i,f⟩:=Sg H b;refine⟨u::us,?_,h2,f⟩;simp only[List.mapM_cons,Sem.run_bind,Sem.run_pure];rw[j];simp only[Result.andThen_ok];rw[i];rfl
def VR2.up {v:AV} {u:Value} (b:VR2 ν h w v u):VR ν h w v u:=by
 cases c:v.isTup with
 |true =>
  cases v<;>try cases c
  exact b.elim
 |false=>rw[yI c]; exact b
def Sf {S:St} {a:Act} {fn:Func} {v:AV} (H:Sim ν S a w) (e:uO P fn S=some v):∃u,(results fn a.tmps).run P w=.ok u w/\VR ν S.h w v u:=by
 unfold uO at e
 cases c:MN P S.h S.t fn.results.toList with
 |none=>rw[c] at e; cases e
 |some vs =>
  obtain⟨us,d,h2⟩:=Sg H c
  have b:(results fn a.tmps).run P w=.ok (if h:us.toArray.size=1 then us.toArray[0] else .tuple us.toArray) w:=by
   unfold results;rw[Sem.run_bind,Array.mapM_eq_mapM_toList,Sem.run_map]
   erw [d]
   rfl
  rw[c] at e
  rcases vs with _|⟨x,_|⟨y,l⟩⟩<;>rcases us with _|⟨u,_|⟨u',m⟩⟩
  ·cases e; exact⟨_,b,⟨#[],by simp,trivial⟩⟩
  ·exact h2.elim
  ·exact h2.elim
  ·exact h2.elim
  ·cases e; exact⟨_,b,h2.1.up⟩
  ·exact h2.2.elim
  ·exact h2.elim
  ·exact h2.2.elim
  ·cases e; exact⟨_,b,⟨(u::u'::m).toArray,by simp,h2⟩⟩
def ē.lk {R:AV->Value->Prop} (b:∀u,R .any u):∀{l:CK AV} {m:CK Value} (i:Nat),ē R l m->R (Am.lk l i) (m.getD i undef)
 |[],[],i,_=>b _
 |_::_,_::_,0,h=>h.1
 |_::_,_::_,i+1,h=>by simpa[Am.lk] using ē.lk b i h.2
 |[],_::_,_,h=>h.elim
 |_::_,[],_,h=>h.elim
def adq (h:Ghost.Q=none):fen=Fence.wide:=by
 unfold fen;rw[h];rfl
omit [Ghost] in
def ud {F:Fence} {n:Nat} {fn:Func} {tmps:Array Value} {R:Ending->World->Prop}:∀(ms:CK Nat) (w:World),ms.Nodup->(∀k∈ms,w.heap[k]?=some (.deferred (some []))) ->
 (∀w':World,w'.heap.size=w.heap.size->w'.os=w.os->w'.tape=w.tape->w'.output=w.output->(∀b,b∉ms->w'.heap[b]?=w.heap[b]?)->LeavesIn F n P fn tmps R [] .returning w')->LeavesInM F n P fn tmps R (ms.map mk1) .returning w
 |[],w,_,_,h=>h w rfl rfl rfl rfl fun _ _=>rfl
 |k::ms,w,p,c,h=>by
  refine⟨by simp,.inl ⟨k,_,rfl,run_takeDeferred (c k (.head _)),?_⟩⟩;obtain⟨r,h2⟩:=fD.1 p;refine ud ms _ h2 (fun j d=>?_) fun w' o m l i f=>h w' (by rw[o]; simp[World.putObj]) m l i fun b hb=>?_
  ·rw[World.putObj_heap_other (fun e=>r (by rw[<-e]; exact d))];exact c j (.tail _ d)
  ·rw[f b fun q=>hb (.tail _ q)];exact World.putObj_heap_other fun e=>hb (by rw[e]; exact .head _)
omit [Ghost] in
def xV {g:Ghost} {E:Env ρ} {call:CK Nat->Bool->Nat->CK AV->CK Blk->(AV->CK Blk->BY ρ)->BY ρ} {N:Nat} (hE:∀M,@nc (g.re g.G [] none M) ρ E N call) (hD:∀M,@wC (g.re g.G [] none M) ρ E N call) {path:CK Nat} (s:path.length+2=N) {f:Nat} {d:CK AV} {K:AV->CK Blk->BY ρ} {r:ρ}
 (hL:∀M fn c,E.P.funcs[f]?=some fn->fn.body=some c->∀x∈â 0 c,@uu (g.re g.G [] none M) ρ E path f x.1 x.2)
 (e:wt E call path f d h K=some r) {vals:CK Value} (H:@HR g ν h w) (hB:g.B<=w.heap.size) (p:ē (@VR g ν h w) d vals) :
 (∃fn c,E.P.funcs[f]?=some fn/\fn.body=some c) /\
 CallsIn Fence.wide 0 E.P f vals.toArray w fun e w'=>∃ν' h' v u,e=.returned u/\@VR g ν' h' w' v u/\@HR g ν' h' w'/\Ev h.length ν h w ν' h' w'/\h.length<=h'.length/\(∀j,j<h.length->lkB h j=.dead->lkB h' j=.dead)/\K v h'=some r:=by
 unfold wt at e
 split at e<;>try (cases e; done)
 rename_i fn y
 split at e<;>try (cases e; done)
 rename_i c Z;refine⟨⟨fn,c,y,Z⟩,?_⟩
 letI g':Ghost:=g.re g.G [] none w.heap.size
 refine callsIn_of_wp_marks y Z trivial ?_;have C:=p.length
 have hS:Sim ν {t:=d++List.replicate (fn.ntmps-d.length) .any,h:=h} {tmps:=vals.toArray++Array.replicate (fn.ntmps-vals.toArray.size) undef,defers:=[]} w:=by
  refine⟨⟨⟨[],rfl,gF,fun _ h=>(by cases h)⟩,fun l I=>(by cases I),hB,cZ _⟩,by simp[C],fun i=>?_,HR.re H⟩;simp only[TD];rcases dq i d.length with hi|hi
  ·have:=ē.lk (R:=@VR g ν h w) (fun _=>trivial) i p
   have U:i<vals.length:=by omega
   have h2:(vals.toArray++Array.replicate (fn.ntmps-vals.toArray.size) undef).getD i undef=vals.getD i undef:=by
    simp[eE,f9,U]
   rw[h2]; exact this
  ·rw[akg _ _ hi]; trivial
 have J:=vX (hE _) (hD _) s c 0 _ _ ν _ w (hL _ fn c y Z) e hS (cZ _);rw[adq rfl] at J;refine wpIn_mono J fun x O w' ha=>?_;obtain⟨ν',L,A,h2,h3,h4,m⟩:=ha
 have fin:∀v,uO E.P fn L=some v->K v L.h=some r->LeavesInM Fence.wide 0 E.P fn O.tmps (fun e w'=>∃ν' h' v u,e=.returned u/\@VR g ν' h' w' v u/\@HR g ν' h' w'/\Ev h.length ν h w ν' h' w'/\h.length<=h'.length/\(∀j,j<h.length->lkB h j=.dead->lkB h' j=.dead)/\K v h'=some r) O.defers .returning w':=by
  intro v U Y;obtain⟨⟨ms,m1,m2,T⟩,_,m4,m5⟩:=A.defers;rw[show O.defers=ms.map mk1 from m1.trans (du _)];refine ud ms w' m2 (fun k Y=>(T k Y).1) fun w2 q1 q2 q3 q4 q5=>?_
  have W:∀(b:Nat) (o:Obj),w'.heap[b]?=some o->SI o=true\/b<g'.B->w2.heap[b]?=some o:=fun b o hb hd=>by
   have z:b∉ms:=fun V=>by
    obtain⟨m6,S⟩:=T b V;rw[m6] at hb; cases hb;rcases hd with hd|hd
    ·cases hd
    ·have:g'.B<=w.heap.size:=hB;have S:w.heap.size<=b:=S;omega
   rw[q5 b z]; exact hb
  have KG:m9 g' ν' L.h w' g'.G w2:=m9.nds q2 q3 q4 (by omega) W;have q:Sim ν' L {O with defers:=[]} w2:=⟨⟨⟨[],rfl,gF,fun _ h=>(by cases h)⟩,fun l I=>(by cases I),hB,by rw[q1]; exact m5⟩,A.len,fun i=>VR.step (g:=g') (D:=[]) (Q:=none) (M:=w.heap.size) KG (A.tmps i),HR.step (g:=g') (D:=[]) (Q:=none) (M:=w.heap.size) KG (fun b hb=>by have:=A.heap.ghlt b hb; omega) (fun b ⟨id,I,ho⟩=>A.heap.ghne id b I ho) A.heap⟩;obtain⟨u,r1,r2⟩:=Sf q U;refine⟨u,r1,ν',L.h,v,u,rfl,r2,HR.er q.heap,⟨q2.trans h2.os,q3.trans h2.tape,q4.trans h2.output,by rw[q1]; exact h2.size,fun b hb hn=>?_,h2.blk⟩,h3,h4,Y⟩;obtain⟨e1,e2⟩:=h2.keep b hb hn;refine⟨?_,e2⟩
  have z:b∉ms:=fun V=>by
   have S:w.heap.size<=b:=(T b V).2;omega
  rw[q5 b z]; exact e1
 cases x with
 |normal =>
  simp only at m
  split at m<;>try (cases m; done)
  exact fin _ ‹_› m
 |ret =>
  simp only at m
  split at m<;>try (cases m; done)
  exact fin _ ‹_› m
 |exit id=>cases m
 |goto l=>cases m
 |panic ch=>cases m
 |outgrown=>cases m
def afB (P:Program) (f:Nat) (X:CK Blk->CK AV->(AV->CK Blk->BY ρ)->BY ρ):Prop :=
 ∀(h:CK Blk) (b:CK AV) (K:AV->CK Blk->BY ρ) (r:ρ),X h b K=some r->∀ν w vals,HR ν h w->ē (VR ν h w) b vals->IA P f ν h w vals K r
structure Iy (E:Env ρ):Prop where
 pure:∀f p,E.pure f=some p->iU E.P f p
 sort:∀f,E.sort f=true->∀(h:CK Blk) (x:AV) (K:AV->CK Blk->BY ρ) (r:ρ),Uk h x K=some r->∀ν w u,HR ν h w->VR ν h w x u->IA E.P f ν h w [u] K r
 compact:∀f,E.compact f=true->∀(h:CK Blk) (x:AV) (K:AV->CK Blk->BY ρ) (r:ρ),qt h x K=some r->∀ν w u,HR ν h w->VR ν h w x u->IA E.P f ν h w [u] K r
 plain : ∀ (f : Nat) (fn : Func), E.P.funcs[f]? = some fn -> (fn.name == "runtime.NumGoroutine") = false
 clone:J1 E.P E.clone
 joins:ZV E
 yld:lz E
 ext:∀f X,E.ext f=some X->afB E.P f X
omit [Ghost] in
def aix {E:Env ρ} (n:Nat):(∀f p,E.pure f=some p->∀path c b h K,Ū E (n+1) path c f b h K=Uu (c&&!E.fz f) p h b K) /\
 (∀f,E.pure f=none->E.sort f=true->∀path c b h K,Ū E (n+1) path c f b h K=match b with|[x]=>Uk h x K|_=>none) /\
 (∀f,E.pure f=none->E.sort f=false->E.compact f=true->∀path c b h K,Ū E (n+1) path c f b h K=match b with|[x]=>qt h x K|_=>none) :=
 ⟨fun f p d path c b h K=>by simp only[Ū,d],fun f d e path c b h K=>by simp only[Ū,d,e]; rfl,fun f d e i path c b h K=>by simp only[Ū,d,e,i]; rfl⟩
omit [Ghost] in
def sh {E:Env ρ} (i:∀[Ghost],lz E->Iy E) (hdraw:∀[Ghost] L call,nc E L call->wC E L call)
 (hloops:∀n,n<=10->(∀[Ghost],lz E->nc E (22-2*n) (Ū E n))->∀[Ghost],lz E->∀(path:CK Nat) (f:Nat) (fn:Func) (c:Code),path.length+2=22-2*n->E.P.funcs[f]?=some fn->fn.body=some c->∀x∈â 0 c,uu E path f x.1 x.2) :
 ∀n,n<=10->∀[Ghost],lz E->nc E (22-2*n) (Ū E n):=by
 intro n
 induction n with
 |zero=>exact fun _ _ l=>⟨.inl fun _ _ _ _ _ _=>rfl,fun path q g m h K r _ e=>(by cases e),(i l).plain,(i l).clone,(i l).joins,l⟩
 |succ n v =>
  intro O k l;have hE:∀[Ghost],lz E->nc E (22-2*n) (Ū E n):=v (by omega);have b:=i l;refine⟨.inr (aix n),fun path q g m h K r N e ν w vals H C d=>?_,b.plain,b.clone,b.joins,l⟩;simp only[Ū] at e
  split at e
  ·rename_i J z;exact aef (b.pure g J z) e H d
  ·split at e
   ·rename_i y
    split at e<;>try (cases e; done)
    rename_i x;obtain⟨u,rfl,s⟩:=d.one;exact b.sort g y h x K r e ν w u H s
   ·split at e
    ·rename_i A
     split at e<;>try (cases e; done)
     rename_i x;obtain⟨u,rfl,s⟩:=d.one;exact b.compact g A h x K r e ν w u H s
    ·split at e
     ·rename_i X B;exact b.ext g X B h m K r e ν w vals H d
     split at e<;>try (cases e; done)
     split at e<;>try (cases e; done)
     have j:path.length+2=22-2*n:=by omega
     have o:∀M,@lz (k.re k.G [] none M) ρ E:=fun _=>l;have p:∀M,@nc (k.re k.G [] none M) ρ E (22-2*n) (Ū E n):=fun M=>@hE (k.re k.G [] none M) (o M);exact xV p (fun M=>@hdraw (k.re k.G [] none M) _ _ (p M)) j (fun M fn c I h2=>@hloops n (by omega) hE (k.re k.G [] none M) (o M) path g fn c j I h2) e H C d
end
end Go.Am
end

noncomputable section
namespace Go.Am
variable [Ghost]
section
variable {ρ:Type} {P:Program} {h h2:CK Blk} {t t2:CK AV}
def ph (h h2:CK Blk) (v:AV):Prop:=∀id∈refs2 h v,lkB h2 id=lkB h id
def ph.one {v:AV} (b:ph h h2 v):∀id∈refs1 v,lkB h2 id=lkB h id:=fun id hi=>b id (by simp only[refs2,dg]; exact .inl hi)
def ph.refs {v:AV} (d:ph h h2 v):refs2 h2 v=refs2 h v:=by
 simp only[refs2]
 have:∀(l:CK Nat),(∀id∈l,lkB h2 id=lkB h id)->(l.flatMap fun id=>(P3 (lkB h2 id)).flatMap Ő)=l.flatMap fun id=>(P3 (lkB h id)).flatMap Ő:=by
  intro l
  induction l with
  |nil=>intro _; rfl
  |cons x l c=>intro b; simp only[dB]; rw[b x (by simp),c fun id hi=>b id (by simp[hi])]
 rw[this _ d.one]
def qz {v:AV} (b:∀id∈Ő v,lkB h2 id=lkB h id):ā h2 v=ā h v:=by
 cases v<;>first
  |rfl
  |(simp only[ā]; rw[b _ (by simp[Ő])])
def MH {v:AV} (d:∀id∈refs1 v,lkB h2 id=lkB h id):ab1 h2 v=ab1 h v:=by
 have one:(∀id∈Ő v,lkB h2 id=lkB h id)->ā h2 v=ā h v:=qz
 cases v with
 |agg cs =>
  simp only[ab1,AV.agg.injEq];exact fk fun c e=>qz fun id hi=>d id (dD.2 ⟨c,e,hi⟩)
 |fn f a b=>exact one fun _ hi=>by cases hi
 |_=>exact one d
def aeH {ty:TypeId} {a:AV} (b:∀id∈refs1 a,lkB h2 id=lkB h id) (K:AV->BY ρ):RL P h2 ty a K=RL P h ty a K:=by
 cases a<;>first
  |rfl
  |(simp only[RL]; rw[b _ (by simp[refs1,Ő])])
def aad {o:Nat} {a:AV} (b:∀id∈refs1 a,lkB h2 id=lkB h id) (K:AV->BY ρ):Cx h2 a o K=Cx h a o K:=by
 cases a<;>first
  |rfl
  |(simp only[Cx]; rw[b _ (by simp[refs1,Ő])])
def aaU {sz:Nat} {a i:AV} (b:∀id∈refs1 a,lkB h2 id=lkB h id) (K:AV->BY ρ):HD sz h2 a i K=HD sz h a i K:=by
 cases i<;>try rfl
 cases a<;>first
  |rfl
  |(simp only[HD]; rw[b _ (by simp[refs1,Ő])])
def ahC {d:BY TypeDesc} {a:AV} (b:∀id∈refs1 a,lkB h2 id=lkB h id) (K:AV->BY ρ):akj d h2 a K=akj d h a K:=by
 unfold akj
 split<;>cases a<;>first
  |rfl
  |(simp only[]; rw[b _ (by simp[refs1,Ő])])
def Y4 {ty:TypeId} {m i:AV} {ok:Bool} (b:∀id∈refs1 m,lkB h2 id=lkB h id) (K:AV->BY ρ):uG P h2 ty m i ok K=uG P h ty m i ok K:=by
 unfold uG
 have:ā h2 m=ā h m:=qz fun id hi=>b id (by cases m<;>first|exact hi|simp[Ő] at hi)
 rw[this]
def J6 {σ:Type} {sz:Nat} {a:AV} {lo hi:BY AV} (K:AV->CK Blk->BY σ):sI sz h a lo hi false K=(sI sz h a lo hi false fun v _=>some v).bind fun v=>K v h:=by
 unfold sI;dsimp only
 (repeat' split)<;>rfl
def aab {sz:Nat} {a:AV} {lo hi:BY AV} (b:∀id∈refs1 a,lkB h2 id=lkB h id):∃φ:BY AV,(∀{σ:Type} (K:AV->CK Blk->BY σ),sI sz h a lo hi false K=φ.bind fun v=>K v h)/\∀{σ:Type} (K:AV->CK Blk->BY σ),sI sz h2 a lo hi false K=φ.bind fun v=>K v h2:=by
 refine⟨sI sz h a lo hi false fun v _=>some v,fun K=>?_,fun K=>?_⟩
 ·exact J6 K
 ·rw[J6 K];congr 1
  cases a<;>first
   |rfl
   |(simp only[sI]; rw[b _ (by simp[refs1,Ő])])
def ap (nid:Nat) (b:BY Blk) (h:CK Blk):CK Blk:=match b with|none=>h|some B=>č h nid B
def pbind {α σ σ2:Type} {R:BY σ->BY σ2->Prop} (h0:R none none) {x:BY α} {K:α->BY σ} {K2:α->BY σ2} (h:∀a,R (K a) (K2 a)):R (x.bind K) (x.bind K2):=by
 cases x with
 |none=>exact h0
 |some a=>exact h a
def pb2 {α σ σ2:Type} {R:BY σ->BY σ2->Prop} (h0:R none none) {x:BY α} {K:α->BY σ} {K2:α->BY σ2} {z:BY σ} {b:BY σ2} (c:z=x.bind K) (h2:b=x.bind K2) (h:∀a,R (K a) (K2 a)):R z b:=by
 subst c h2; exact pbind h0 h
def Nn {l:CK Operand} (b:∀x∈l,ev t2 x=ev t x):l.map (ev t2)=l.map (ev t):=fk b
def ag1 {l:CK (Nat×Operand)} (b:∀x∈l.map (·.2),ev t2 x=ev t x):(l.map fun p=>(p.1,ev t2 p.2))=l.map fun p=>(p.1,ev t p.2):=fk fun p c=>by rw[b p.2 (dE.2 ⟨p,c,rfl⟩)]
def Sd {ty:Ty}:∀{ps:CK (Nat×AV)} {n:Nat},(∀p∈ps,∀id∈refs1 p.2,lkB h2 id=lkB h id)->Qy h2 ty n ps=Qy h ty n ps
 |[],_,_=>rfl
 |(i,v)::ps,n,b=>by
  simp only[Qy];rw[MH (b (i,v) (by simp)),Sd fun q c=>b q (by simp[c])]
def alI {σ σ2:Type} {R:BY σ->BY σ2->Prop} {E:Env ρ} {o:Op} {nid:Nat} {K:AV->St->BY σ} {K2:AV->St->BY σ2} (h0:R none none) (z:cls E o<=1) (G:TI o=false)
 (d:∀x∈o.operands.toList,ev t2 x=ev t x) (C:cls E o=1->∀x∈o.operands.toList,∀id∈refs1 (ev t x),lkB h2 id=lkB h id)
 (J:∀v I,(I.isSome=true->ĕ E.clone o=true)->R (K v {t:=t,h:=ap nid I h}) (K2 v {t:=t2,h:=ap nid I h2})) :
 R (opK P {t:=t,h:=h} nid false o K) (opK P {t:=t2,h:=h2} nid false o K2):=by
 have k:∀v,R (K v {t:=t,h:=h}) (K2 v {t:=t2,h:=h2}):=fun v=>J v none (by simp);have ha:ĕ E.clone o=true->∀v B,R (K v {t:=t,h:=č h nid B}) (K2 v {t:=t2,h:=č h2 nid B}):=fun al v B=>J v (some B) fun _=>al
 cases o with
 |move x =>
  have e:=d x (by simp[Op.operands]);simp only[opK,e]; exact k _
 |assign x =>
  have e:=d x (by simp[Op.operands]);simp only[opK,e]; exact k _
 |pick c a b =>
  have p:=d c (by simp[Op.operands]);have u:=d a (by simp[Op.operands]);have T:=d b (by simp[Op.operands]);simp only[opK,p,u,T]
  (repeat' split)<;>first|exact h0|exact k _
 |box _ x =>
  have e:=d x (by simp[Op.operands]);simp only[opK,e]
  (repeat' split)<;>first|exact h0|exact ha rfl _ _
 |alloc e =>
  simp only[opK]
  (repeat' split)<;>first|exact h0|exact ha rfl _ _
 |build ty ps =>
  have e:=ag1 (l:=ps.toList) (t:=t) (t2:=t2) fun x q=>d x (by simpa[Op.operands] using q);simp only[opK,e]
  (repeat' split)<;>first|exact h0|exact k _
 |buildSlice ty n ps=>exact absurd z (by decide:¬2<=1)
 |load ty a =>
  have e:=d a (by simp[Op.operands]);have j:=C rfl a (by simp[Op.operands]);simp only[opK,e];rw[aeH j];exact pb2 h0 (vT ..) (vT ..) fun v=>k v
 |nilCheck x =>
  have e:=d x (by simp[Op.operands]);have j:=C rfl x (by simp[Op.operands]);simp only[opK,e]
  cases O:ev t x with
  |optr id g i off =>
   have:=j id (by rw[O]; simp[refs1,Ő]);simp only[this]
   (repeat' split)<;>first|exact h0|exact k _
  |_=>first|exact h0|exact k _
 |binOp op ty x y yt =>
  have p:=d x (by simp[Op.operands]);have u:=d y (by simp[Op.operands]);simp only[opK,p,u];exact pb2 h0 (B5 ..) (B5 ..) fun v=>k v
 |unOp op ty x =>
  have e:=d x (by simp[Op.operands]);simp only[opK,e]
  (repeat' split)<;>first|exact h0|exact k _|exact pb2 h0 (E8 ..) (E8 ..) fun v=>k v
 |convert src dst x =>
  have e:=d x (by simp[Op.operands]);simp only[opK,e]
  (repeat' split)<;>first|exact h0|exact k _
 |makeFunc fn first captured =>
  have p:=Nn (l:=first.toList) (t:=t) (t2:=t2) fun x q=>d x (by simp[Op.operands]; exact .inl (by simpa using q));have u:=Nn (l:=captured.toList) (t:=t) (t2:=t2) fun x q=>d x (by simp[Op.operands]; exact .inr (by simpa using q));simp only[opK,p,u]
  (repeat' split)<;>first|exact h0|exact k _
 |makeMap ty r =>
  simp only[opK]
  (repeat' split)<;>first|exact h0|exact ha rfl _ _
 |makeSlice ty l c =>
  have e:=d l (by simp[Op.operands]);simp only[opK,e]
  (repeat' split)<;>first|exact h0|exact ha rfl _ _
 |slice ty x lo hi mx =>
  have e:=d x (by simp[Op.operands]);have j:=C rfl x (by simp[Op.operands])
  have p:lo.map (ev t2)=lo.map (ev t):=by
   cases lo with
   |none=>rfl
   |some l=>simp[d l (by simp[Op.operands])]
  have u:hi.map (ev t2)=hi.map (ev t):=by
   cases hi with
   |none=>rfl
   |some l=>simp[d l (by simp[Op.operands])]
  simp only[opK,e,p,u]
  (repeat' split)<;>first
   |exact h0
   | (obtain ⟨φ, N, L⟩ := aab j
      rw[N,L]
      exact pbind h0 fun v=>k v)
 |fieldAddr ty x f =>
  have e:=d x (by simp[Op.operands]);have j:=C rfl x (by simp[Op.operands]);simp only[opK,e]
  (repeat' split)<;>first
   |exact h0
   |(rw[aad j]; exact pb2 h0 (qA ..) (qA ..) fun v=>k v)
 |field ty x f =>
  have e:=d x (by simp[Op.operands]);simp only[opK,e]
  (repeat' split)<;>first|exact h0|exact k _
 |indexAddr ty x i =>
  have p:=d x (by simp[Op.operands]);have u:=d i (by simp[Op.operands]);have j:=C rfl x (by simp[Op.operands]);simp only[opK,p,u]
  (repeat' split)<;>first
   |exact h0
   |exact k _
   |exact pb2 h0 (ji ..) (ji ..) fun v=>k _
   |(rw[aaU j]; exact pb2 h0 (qH ..) (qH ..) fun v=>k v)
 |index ty x i =>
  have p:=d x (by simp[Op.operands]);have u:=d i (by simp[Op.operands]);simp only[opK,p,u]
  (repeat' split)<;>first|exact h0|exact k _|exact pb2 h0 (ji ..) (ji ..) fun v=>by(repeat' split)<;>first|exact h0|exact k _
 |lookup ty m i ok =>
  have p:=d m (by simp[Op.operands]);have u:=d i (by simp[Op.operands]);have j:=C rfl m (by simp[Op.operands]);simp only[opK,p,u];rw[Y4 j];exact pb2 h0 (nH ..) (nH ..) fun v=>k v
 |extract x i =>
  have e:=d x (by simp[Op.operands]);simp only[opK,e]
  (repeat' split)<;>first|exact h0|exact k _
 |call c =>
  obtain⟨A,s,tys⟩:=c
  cases A with
  |builtin b =>
   have e:=Nn (l:=s.toList) (t:=t) (t2:=t2) fun x q=>d x (by simpa[Op.operands,Call.operands] using q);have j:cls E (.call ⟨.builtin b,s,tys⟩)=1->∀x∈s.toList,∀id∈refs1 (ev t x),lkB h2 id=lkB h id:=fun S x q=>C S x (by simpa[Op.operands,Call.operands] using q);generalize H:s.toList=l at e j;generalize q:tys.toList=m
   cases b with
   |append=>simp[cls] at z
   |clear=>simp[cls] at z
   |len =>
    rcases l with _|⟨x,_|⟨y,l⟩⟩<;>rcases m with _|⟨ty,m⟩<;>simp only[opK,H,q]<;>try exact h0
    have p:ev t2 x=ev t x:=by simpa using e
    rw[p,ahC (j rfl x (by simp))];exact pb2 h0 (Bu ..) (Bu ..) fun v=>k v
   |cap =>
    rcases l with _|⟨x,_|⟨y,l⟩⟩<;>rcases m with _|⟨ty,m⟩<;>simp only[opK,H,q]<;>try exact h0
    have p:ev t2 x=ev t x:=by simpa using e
    rw[p]
    (repeat' split)<;>first|exact h0|exact k _
   |min =>
    rcases l with _|⟨x,l⟩<;>simp only[opK,H,q]<;>try exact h0
    simp only[eX,List.cons.injEq] at e;rw[e.1,e.2];exact pb2 h0 (i6 _ _ _ _) (i6 _ _ _ _) fun v=>k v
   |max =>
    rcases l with _|⟨x,l⟩<;>simp only[opK,H,q]<;>try exact h0
    simp only[eX,List.cons.injEq] at e;rw[e.1,e.2];exact pb2 h0 (i6 _ _ _ _) (i6 _ _ _ _) fun v=>k v
   |_=>simp only[opK]; (repeat' split)<;>first|exact h0|contradiction
  |value f=>cases G
  |invoke r m=>exact h0
 |store=>simp[cls] at z
 |mapUpdate=>simp[cls] at z
 |_=>exact h0
def aps (ups:CK (Nat×Blk)) (h:CK Blk):CK Blk:=ups.foldl (fun h p=>č h p.1 p.2) h
def abF {id:Nat} {B:Blk}:aps [(id,B)] h=č h id B:=rfl
def nV {u v:CK (Nat×Blk)}:aps (u++v) h=aps v (aps u h):=by simp[aps]
def vU:∀(ups:CK (Nat×Blk)) (h:CK Blk),(aps ups h).length=h.length
 |[],_=>rfl
 |p::ups,h=>by show(aps ups (č h p.1 p.2)).length=_; rw[vU ups,ã]
def Ue {id:Nat}:∀{ups:CK (Nat×Blk)} {h:CK Blk},(∀p∈ups,p.1≠id)->lkB (aps ups h) id=lkB h id
 |[],_,_=>rfl
 |p::ups,h,b=>by
  show lkB (aps ups (č h p.1 p.2)) id=_;rw[Ue fun q c=>b q (by simp[c]),Ö _ (Ne.symm (b p (by simp)))]
def B6 {id:Nat}:∀{ups:CK (Nat×Blk)} {h h2:CK Blk},h2.length=h.length->lkB h2 id=lkB h id->lkB (aps ups h2) id=lkB (aps ups h) id
 |[],_,_,_,b=>b
 |p::ups,h,h2,c,b=>B6 (ups:=ups) (h:=č h p.1 p.2) (h2:=č h2 p.1 p.2) (by simp[ã,c]) (by simp only[xA,c,b])
def adl {v:AV} (f:∀id∈Ő v,lkB h2 id=lkB h id):∃ups,si h v=aps ups h/\si h2 v=aps ups h2/\∀p∈ups,p.1∈Ő v:=by
 have c:si h v=h->si h2 v=h2->∃ups,si h v=aps ups h/\si h2 v=aps ups h2/\∀p∈ups,p.1∈Ő v:=fun i d=>⟨[],i,d,by simp⟩
 cases v with
 |own id g =>
  have e:=f id (by simp[Ő])
  cases b:lkB h id with
  |row t g fz xs =>
   rw[b] at e;exact⟨[(id,.row t g true xs)],by simp only[si,b]; rfl,by simp only[si,e]; rfl,by simp[Ő]⟩
  |_=>rw[b] at e; exact c (by simp only[si,b]) (by simp only[si,e])
 |sub id g lo n =>
  have e:=f id (by simp[Ő])
  cases b:lkB h id with
  |row t g fz xs =>
   rw[b] at e;exact⟨[(id,.row t g true xs)],by simp only[si,b]; rfl,by simp only[si,e]; rfl,by simp[Ő]⟩
  |_=>rw[b] at e; exact c (by simp only[si,b]) (by simp only[si,e])
 |_=>exact c rfl rfl
def VJ:∀{cs:CK AV} {h h2:CK Blk},h2.length=h.length->(∀c∈cs,∀id∈Ő c,lkB h2 id=lkB h id)->∃ups,Cs h cs=aps ups h/\Cs h2 cs=aps ups h2/\∀p∈ups,∃c∈cs,p.1∈Ő c
 |[],_,_,_,_=>⟨[],rfl,rfl,by simp⟩
 |c::cs,h,h2,i,f=>by
  obtain⟨u,j,e,o⟩:=adl (f c (by simp));obtain⟨v,m,l,k⟩:=VJ (cs:=cs) (h:=si h c) (h2:=si h2 c) (by rw[nO,nO,i]) (fun d hd id hi=>by rw[j,e]; exact B6 i (f d (by simp[hd]) id hi));refine⟨u++v,by simp only[Cs]; rw[m,j,nV],by simp only[Cs]; rw[l,e,nV],fun p b=>?_⟩;rcases dg.1 b with b|b
  ·exact⟨c,by simp,o p b⟩
  ·obtain⟨d,hd,hi⟩:=k p b;exact⟨d,by simp[hd],hi⟩
def aa4 {v:AV} (l:h2.length=h.length) (k:∀id∈refs1 v,lkB h2 id=lkB h id):∃ups,frz h v=aps ups h/\frz h2 v=aps ups h2/\∀p∈ups,p.1∈refs1 v:=by
 have one:(∀id∈Ő v,lkB h2 id=lkB h id)->∃ups,si h v=aps ups h/\si h2 v=aps ups h2/\∀p∈ups,p.1∈Ő v:=adl
 cases v with
 |agg cs =>
  obtain⟨u,j,d,i⟩:=VJ (cs:=cs) l fun c m id hi=>k id (dD.2 ⟨c,m,hi⟩);exact⟨u,j,d,fun p e=>dD.2 (i p e)⟩
 |fn f a b =>
  obtain⟨u,j,d,i⟩:=one fun _ hi=>by cases hi
  exact⟨u,j,d,fun p e=>by cases i p e⟩
 |_=>exact one k
def J5 {ty:Ty} {x:AV} (b:∀id∈refs1 x,lkB h2 id=lkB h id):Ü (.slice ty) [ā h2 x]=Ü (.slice ty) [ā h x]:=by
 have:ā h2 x=ā h x:=qz fun id hi=>b id (by cases x<;>first|exact hi|simp[Ő] at hi)
 rw[this]
def ae8 {v:AV} {vs:CK AV} (d:š v=some vs):∀c∈vs,∀id∈Ő c,id∈refs1 v:=by
 intro c b id hi
 cases v<;>simp only[š,Option.some.injEq,reduceCtorEq] at d<;>subst d
 all_goals first
  |(simp only[dj] at b; subst b; exact hi)
  |(simp only[dj] at b; subst b; cases hi; done)
  |exact dD.2 ⟨c,b,hi⟩
def WM {σ σ2:Type} {R:BY σ->BY σ2->Prop} {ty:TypeId} {a v:AV} {K:CK Blk->BY σ} {K2:CK Blk->BY σ2} (h0:R none none) (d:h2.length=h.length)
 (k:∀id∈refs1 a,lkB h2 id=lkB h id) (j:∀id∈refs1 v,lkB h2 id=lkB h id) (l:∀ups,(∀p∈ups,p.1∈refs1 a\/p.1∈refs1 v)->R (K (aps ups h)) (K2 (aps ups h2))):R (ye P h ty a v K) (ye P h2 ty a v K2):=by
 unfold ye
 split<;>try exact h0
 rename_i vs e
 split<;>try exact h0
 split<;>try exact h0
 ·rename_i id off;have f:=k id (by simp[refs1,Ő]);rw[f]
  (repeat' split)<;>first
   |exact h0
   |exact l [(id,_)] fun p b=>.inl (by simp only[dj] at b; subst b; simp[refs1,Ő])
 ·rename_i id g i off;have f:=k id (by simp[refs1,Ő]);obtain⟨u,o,m,s⟩:=aa4 (v:=v) d j
  have y:lkB (frz h2 v) id=lkB (frz h v) id:=by rw[o,m]; exact B6 d f
  have x:vs.map (ā h2)=vs.map (ā h):=fk fun c r=>qz fun id hi=>j id (ae8 e c r id hi);rw[y,x]
  (repeat' split)<;>first
   |exact h0
   | (rw [o, m]
      refine l (u++[(id,_)]) (fun p b=>?_) |> fun q=>(by simpa only[nV,abF] using q)
      rcases dg.1 b with b|b
      ·exact .inr (s p b)
      ·exact .inl (by simp only[dj] at b; subst b; simp[refs1,Ő]))
def adj:∀{ps:CK (Nat×AV)} {h h2:CK Blk},h2.length=h.length->(∀p∈ps,∀id∈refs1 p.2,lkB h2 id=lkB h id)->∃ups,frzA h ps=aps ups h/\frzA h2 ps=aps ups h2/\∀p∈ups,∃q∈ps,p.1∈refs1 q.2
 |[],_,_,_,_=>⟨[],rfl,rfl,by simp⟩
 |(i,v)::ps,h,h2,e,j=>by
  obtain⟨u,f,b,o⟩:=aa4 (v:=v) e (j (i,v) (by simp));obtain⟨w,m,l,k⟩:=adj (ps:=ps) (h:=frz h v) (h2:=frz h2 v) (by rw[f,b,vU,vU,e]) (fun q d id hi=>by rw[f,b]; exact B6 e (j q (by simp[d]) id hi));refine⟨u++w,by simp only[frzA]; rw[m,f,nV],by simp only[frzA]; rw[l,b,nV],fun p c=>?_⟩;rcases dg.1 c with c|c
  ·exact⟨(i,v),by simp,o p c⟩
  ·obtain⟨q,d,hi⟩:=k p c;exact⟨q,by simp[d],hi⟩
def amz {σ σ2:Type} {R:BY σ->BY σ2->Prop} {E:Env ρ} {o:Op} {nid:Nat} {eat:Bool} {K:AV->St->BY σ} {K2:AV->St->BY σ2} (h0:R none none) (S:cls E o=2) (T:TI o=false) (k:h2.length=h.length) (heat:∀ty n ps,o=.buildSlice ty n ps->eat=false)
 (L:∀x∈o.operands.toList,ev t2 x=ev t x) (U:∀x∈o.operands.toList,∀id∈refs1 (ev t x),lkB h2 id=lkB h id)
 (J:∀v ups,(∀p∈ups,(p.1=nid/\ĕ E.clone o=true)\/∃x∈o.operands.toList,p.1∈refs1 (ev t x))->R (K v {t:=t,h:=aps ups h}) (K2 v {t:=t2,h:=aps ups h2})) :
 R (opK P {t:=t,h:=h} nid eat o K) (opK P {t:=t2,h:=h2} nid eat o K2):=by
 cases o with
 |buildSlice ty n ps =>
  obtain rfl:=heat ty n ps rfl;have e:=ag1 (l:=ps.toList) (t:=t) (t2:=t2) fun x A=>L x (by simpa[Op.operands] using A)
  have Y:∀p∈ps.toList.map (fun p=>(p.1,ev t p.2)),∀id∈refs1 p.2,lkB h2 id=lkB h id:=fun p d=>by
   obtain⟨q,hq,rfl⟩:=dE.1 d;exact U q.2 (by simpa[Op.operands] using⟨q.1,by simpa using hq⟩)
  have hr:∀ty n,Qy h2 ty n (ps.toList.map fun p=>(p.1,ev t p.2))=Qy h ty n (ps.toList.map fun p=>(p.1,ev t p.2)):=fun ty n=>Sd Y;obtain⟨u,f1,f2,f3⟩:=adj k Y;simp only[opK,e,hr,f1,f2]
  (repeat' split)<;>first
   |exact h0
   | (refine J _ (u ++ [(nid, _)]) (fun p d => ?_) |> fun q => (by simpa only [nV, abF] using q)
      rcases dg.1 d with d|d
      ·obtain⟨q,hq,hi⟩:=f3 p d;obtain⟨q',hq',rfl⟩:=dE.1 hq;exact .inr ⟨q'.2,by simpa[Op.operands] using⟨q'.1,by simpa using hq'⟩,hi⟩
      ·exact .inl ⟨by simp only[dj] at d; subst d; rfl,rfl⟩)
 |store ty a v =>
  have e1:=L a (by simp[Op.operands]);have e2:=L v (by simp[Op.operands]);have W:=U a (by simp[Op.operands]);have s2:=U v (by simp[Op.operands]);have ma:∀{id:Nat},id∈refs1 (ev t a)->∃x∈(Op.store ty a v).operands.toList,id∈refs1 (ev t x):=fun hi=>⟨a,by simp[Op.operands],hi⟩;have Z:∀{id:Nat},id∈refs1 (ev t v)->∃x∈(Op.store ty a v).operands.toList,id∈refs1 (ev t x):=fun hi=>⟨v,by simp[Op.operands],hi⟩;simp only[opK,e1,e2]
  cases eat with
  |false =>
   simp only;exact WM h0 k W s2 fun ups O=>J _ ups fun p d=>.inr ((O p d).elim ma Z)
  |true =>
   simp only
   cases N:ev t v with
   |sub id g lo n =>
    rw[N] at s2 Z;have e3:=s2 id (by simp[refs1,Ő]);simp only[e3]
    split<;>try exact h0
    split<;>try exact h0
    refine WM h0 (by simp[ã,k]) (fun j hj=>?_) (fun j hj=>?_) fun ups O=>J _ ((id,_)::ups) fun p d=>.inr ?_
    ·exact B6 (ups:=[(id,_)]) k (W j hj)
    ·simp only[refs1,Ő,dj] at hj;subst hj;exact B6 (ups:=[(_,_)]) k e3
    ·rcases dh.1 d with rfl|d
     ·exact Z (by simp[refs1,Ő])
     ·rcases O p d with O|O
      ·exact ma O
      ·exact Z (by simpa[refs1,Ő] using O)
   |_=>exact h0
 |mapUpdate ty m i x =>
  have e1:=L m (by simp[Op.operands]);have e2:=L i (by simp[Op.operands]);have e3:=L x (by simp[Op.operands]);have W:=U m (by simp[Op.operands]);have s3:=U x (by simp[Op.operands]);obtain⟨u,f1,f2,f3⟩:=aa4 (v:=ev t x) k s3;simp only[opK,e1,e2,e3];unfold l5;rw[MH s3]
  split<;>try exact h0
  split<;>try exact h0
  rename_i id A;rw[A] at W;rw[W id (by simp[refs1,Ő])]
  (repeat' split)<;>first
   |exact h0
   | (rw [f1, f2]
      refine J _ (u++[(id,_)]) (fun p d=>?_) |> fun q=>(by simpa only[nV,abF] using q)
      rcases dg.1 d with d|d
      ·exact .inr ⟨x,by simp[Op.operands],f3 p d⟩
      ·exact .inr ⟨m,by simp[Op.operands],by simp only[dj] at d; subst d; rw[A]; simp[refs1,Ő]⟩)
 |call c =>
  obtain⟨H,s,tys⟩:=c
  cases H with
  |builtin b =>
   have e:=Nn (l:=s.toList) (t:=t) (t2:=t2) fun x A=>L x (by simpa[Op.operands,Call.operands] using A);have G:∀x∈s.toList,∀id∈refs1 (ev t x),lkB h2 id=lkB h id:=fun x A=>U x (by simpa[Op.operands,Call.operands] using A)
   have C:∀x∈s.toList,x∈(Op.call ⟨.builtin b,s,tys⟩).operands.toList:=fun x A=>by simpa[Op.operands,Call.operands] using A
   generalize hl:s.toList=l at e G C;generalize A:tys.toList=m
   cases b with
   |append =>
    rcases l with _|⟨x,_|⟨y,_|⟨z,l⟩⟩⟩<;>rcases m with _|⟨ty,_|⟨ty',_|⟨ty'',m⟩⟩⟩<;>simp only[opK,hl,A]<;>try exact h0
    simp only[eX,List.cons.injEq,fF,and_true] at e;rw[e.1,e.2];have V:=G x (by simp);have sy:=G y (by simp);have I:∀v B,R (K v {t:=t,h:=č h nid B}) (K2 v {t:=t2,h:=č h2 nid B}):=fun v B=>J v [(nid,B)] fun p d=>.inl ⟨by simp only[dj] at d; subst d; rfl,rfl⟩
    (repeat' split)<;>first
     |exact h0
     | (unfold A8
        simp only[J5 sy]
        split<;>try exact h0
        split<;>try exact h0
        split<;>try exact h0
        split<;>try exact h0
        split<;>try exact h0
        ·split<;>first|exact h0|exact I _ _
        ·rename_i id g N;rw[N] at V;rw[V id (by simp[refs1,Ő])]
         (repeat' split)<;>first
          |exact h0
          |exact J _ [(id,_)] fun p d=>.inr ⟨x,C x (by simp),by simp only[dj] at d; subst d; rw[N]; simp[refs1,Ő]⟩)
     | (unfold J2
        (repeat' split)<;>first|exact h0|exact I _ _)
   |clear =>
    rcases l with _|⟨x,_|⟨y,l⟩⟩<;>rcases m with _|⟨ty,_|⟨ty',m⟩⟩<;>simp only[opK,hl,A]<;>try exact h0
    simp only[eX,List.cons.injEq,fF,and_true] at e;rw[e];have V:=G x (by simp)
    split<;>try exact h0
    unfold KD
    split<;>try exact h0
    ·exact J _ [] (by simp)
    ·rename_i id g lo n _ N _;rw[N] at V;rw[V id (by simp[refs1,Ő])]
     (repeat' split)<;>first
      |exact h0
      |exact J _ [(id,_)] fun p d=>.inr ⟨x,C x (by simp),by simp only[dj] at d; subst d; rw[N]; simp[refs1,Ő]⟩
   |_=>simp[cls] at S
  |value f=>cases T
  |invoke r m=>simp[cls] at S
 |_=>simp[cls] at S
end
end Go.Am
end

noncomputable section
namespace Go.Am
variable [Ghost]
section
variable {ρ:Type} {P:Program} {h h2:CK Blk} {t t2:CK AV}
def ZM {ty:Ty} {a:AV} (d:ph h h2 a):alg h2 ty a=alg h ty a:=by
 have b:ab1 h2 a=ab1 h a:=MH d.one
 cases ty with
 |ptr u =>
  cases a with
  |box id off =>
   cases off with
   |zero =>
    have j:lkB h2 id=lkB h id:=d.one id (by simp[refs1,Ő]);simp only[alg,j]
    cases e:lkB h id with
    |cells cs =>
     simp only
     have:cs.map (ā h2)=cs.map (ā h):=fk fun c f=>qz fun i hi=>d i (by
      simp only[refs2,dg,dD]
      exact .inr ⟨id,by simp[refs1,Ő],by rw[e]; exact⟨c,f,hi⟩⟩)
     rw[this]
    |_=>rfl
   |succ n=>rfl
  |eptr k x off=>cases off<;>rfl
  |_=>rfl
 |_=>cases a with
  |_=>simp only[alg,b]
def Uc:∀{l:CK Ty} {ty:Ty} {as:CK AV},(∀a∈as,ph h h2 a)->Wm h2 l ty as=Wm h l ty as
 |[],ty,[],_=>rfl
 |[],ty,[a],c=>by simp only[Wm]; exact ZM (c a (by simp))
 |[],ty,_::_::_,_=>rfl
 |u::l,ty,[],_=>rfl
 |u::l,ty,a::as,c=>by
  simp only[Wm];rw[ZM (c a (by simp)),Uc fun b hb=>c b (by simp[hb])]
def Ud {l:CK Ty} {as:CK AV} (b:∀a∈as,ph h h2 a):E7 h2 l as=E7 h l as:=by
 cases l with
 |nil=>rfl
 |cons ty l=>exact Uc b
def abb {E:Env ρ} {o:Op} (c:∀x∈o.operands.toList,ev t2 x=ev t x):T1 E t2 o=T1 E t o:=by
 unfold T1
 split
 ·rename_i s b tys;rw[c (.tmp s) (by simp[Op.operands,Call.operands])]
 ·rfl
def PT {E:Env ρ} {o:Op} (d:∀x∈o.operands.toList,ev t2 x=ev t x) (e:1<=cls E o->∀x∈o.operands.toList,ph h h2 (ev t x)) :
 nk E {t:=t2,h:=h2} o=nk E {t:=t,h:=h} o:=by
 unfold nk
 split
 ·rename_i f;have b:1<=cls E o:=eY f
  have i:(o.operands.toList.all fun x=>(refs2 h2 (ev t2 x)).all fun id=>!ahJ (lkB h2 id))=o.operands.toList.all fun x=>(refs2 h (ev t x)).all fun id=>!ahJ (lkB h id):=by
   rw[eM];simp only[dI];refine forall_congr' fun x=>forall_congr' fun c=>?_;rw[d x c,(e b x c).refs]
   exact forall_congr' fun id=>forall_congr' fun hi=>by rw[e b x c id hi]
  exact congr (congrArg and i) (abb d)
 ·rfl
def qk {E:Env ρ} {o:Op} (b:1<=cls E o) {id:Nat}:id∈Ct E {t:=t,h:=h} o↔∃x∈o.operands.toList,id∈refs2 h (ev t x):=by
 unfold Ct;have:Nat.ble 1 (cls E o)=true:=Nat.ble_eq_true_of_le b;simp only[this,List.mem_flatMap]
def HK {E:Env ρ} {o:Op} (b:cls E o=0) {S:St}:Ct E S o=[]:=by
 unfold Ct; rw[b]
def Loc (E:Env ρ) (o:Op) (nid:Nat) (t:CK AV) (h:CK Blk) (t2:CK AV) (h2:CK Blk) (z b:(AV->St->BY ρ)->BY ρ):Prop :=
 ∃φ:BY (AV×CK (Nat×Blk)),(∀r,φ=some r->∀p∈r.2,(p.1=nid/\ĕ E.clone o=true)\/(cls E o=2/\p.1∈Ct E {t:=t,h:=h} o)) /\
  (∀K,z K=φ.bind fun r=>K r.1 {t:=t,h:=aps r.2 h})/\∀K,b K=φ.bind fun r=>K r.1 {t:=t2,h:=aps r.2 h2}
def Loc.no {E:Env ρ} {o:Op} {nid:Nat} {z c:(AV->St->BY ρ)->BY ρ} (d:∀K,z K=none) (b:∀K,c K=none):Loc E o nid t h t2 h2 z c :=
 ⟨none,by simp,fun K=>by rw[d]; rfl,fun K=>by rw[b]; rfl⟩
def aiq {σ σ2:Type} {R:BY σ->BY σ2->Prop} {g nid:Nat} {fz:Bool} {x:AV} {K:AV->St->BY σ} {K2:AV->St->BY σ2} (h0:R none none) (d:∀id∈refs1 x,lkB h2 id=lkB h id)
 (b:∀v c,R (K v {t:=t,h:=ap nid c h}) (K2 v {t:=t2,h:=ap nid c h2})):R (AX P g fz {t:=t,h:=h} nid x K) (AX P g fz {t:=t2,h:=h2} nid x K2):=by
 simp only[AX,J5 d]
 (repeat' split)<;>first|exact h0|exact b _ none|exact b _ (some _)
def efU (nid:Nat):BY Blk->CK (Nat×Blk)
 |none=>[]
 |some B=>[(nid,B)]
def adP {nid:Nat} {b:BY Blk}:ap nid b h=aps (efU nid b) h:=by cases b<;>rfl
def amo {E:Env ρ} {call:CK Nat->Bool->Nat->CK AV->CK Blk->(AV->CK Blk->BY ρ)->BY ρ} {fid:Nat} {path:CK Nat} {nid:Nat} {o:Oper}
 (k:ajy E call) (J:cls E o.op<=2) (hlen:h2.length=h.length) (hx:∀x∈o.op.operands.toList,ev t2 x=ev t x) (hs:1<=cls E o.op->∀x∈o.op.operands.toList,ph h h2 (ev t x)) :
 Loc E o.op nid t h t2 h2 (iC E call fid path true {t:=t,h:=h} nid o) (iC E call fid path true {t:=t2,h:=h2} nid o):=by
 have z:=PT hx hs
 cases L:nk E {t:=t,h:=h} o.op with
 |false=>exact .no (fun K=>by simp[iC,L]) (fun K=>by simp[iC,z,L])
 |true =>
  rw[L] at z
  have plain:(∀f d tys,o.op≠.call ⟨.value f,d,tys⟩)->Loc E o.op nid t h t2 h2 (iC E call fid path true {t:=t,h:=h} nid o) (iC E call fid path true {t:=t2,h:=h2} nid o):=by
   intro hno
   have C:∀S:St,nk E S o.op=true->∀K,iC E call fid path true S nid o K=opK E.P S nid (RO E true fid o) o.op K:=fun S Z K=>by
    unfold iC;simp only[Z,Bool.not_true,Bool.and_false,Bool.false_and]
   have Y:TI o.op=false:=by
    cases I:o.op<;>try rfl
    rename_i c;obtain⟨f,d,tys⟩:=c
    cases f<;>first|rfl|exact absurd I (hno _ _ _)
   have fin:(∃φ:BY (AV×CK (Nat×Blk)),(∀r,φ=some r->∀p∈r.2,(p.1=nid/\ĕ E.clone o.op=true)\/(cls E o.op=2/\p.1∈Ct E {t:=t,h:=h} o.op)) /\
    opK E.P {t:=t,h:=h} nid (RO E true fid o) o.op (fun v S=>some (v,S))=φ.map (fun r=>(r.1,({t:=t,h:=aps r.2 h}:St)))/\opK E.P {t:=t2,h:=h2} nid (RO E true fid o) o.op (fun v S=>some (v,S))=φ.map fun r=>(r.1,({t:=t2,h:=aps r.2 h2}:St))) ->
    Loc E o.op nid t h t2 h2 (iC E call fid path true {t:=t,h:=h} nid o) (iC E call fid path true {t:=t2,h:=h2} nid o):=by
    rintro⟨φ,h1,h2',h3⟩;refine⟨φ,h1,fun K=>?_,fun K=>?_⟩
    ·rw[C _ L,UK]; unfold opR; rw[h2']; cases φ<;>rfl
    ·rw[C _ z,UK]; unfold opR; rw[h3]; cases φ<;>rfl
   apply fin
   by_cases h2c:cls E o.op=2
   ·refine amz (P:=E.P) (E:=E) (o:=o.op) (nid:=nid) (σ:=AV×St) (σ2:=AV×St) (K:=fun v S=>some (v,S)) (K2:=fun v S=>some (v,S))
     (R:=fun x y=>∃φ:BY (AV×CK (Nat×Blk)),(∀r,φ=some r->∀p∈r.2,(p.1=nid/\ĕ E.clone o.op=true)\/(cls E o.op=2/\p.1∈Ct E {t:=t,h:=h} o.op))/\x=φ.map (fun r=>(r.1,({t:=t,h:=aps r.2 h}:St)))/\y=φ.map fun r=>(r.1,({t:=t2,h:=aps r.2 h2}:St)))
     ⟨none,by simp,rfl,rfl⟩ h2c Y hlen (fun ty n ps I=>by rw[RO,I]; rfl) hx (fun x G=>(hs (by omega) x G).one) fun v ups hu=>⟨some (v,ups),fun r H p m=>?_,rfl,rfl⟩
    cases H;rcases hu p m with hu|⟨x,G,hi⟩
    ·exact .inl hu
    ·exact .inr ⟨h2c,(qk (by omega)).2 ⟨x,G,by simp only[refs2,dg]; exact .inl hi⟩⟩
   ·have hea:RO E true fid o=false:=by
     unfold RO
     cases I:o.op<;>first|rfl|(exfalso; apply h2c; rw[I]; rfl)
    rw[hea]
    refine alI (P:=E.P) (E:=E) (o:=o.op) (nid:=nid) (σ:=AV×St) (σ2:=AV×St) (K:=fun v S=>some (v,S)) (K2:=fun v S=>some (v,S))
     (R:=fun x y=>∃φ:BY (AV×CK (Nat×Blk)),(∀r,φ=some r->∀p∈r.2,(p.1=nid/\ĕ E.clone o.op=true)\/(cls E o.op=2/\p.1∈Ct E {t:=t,h:=h} o.op))/\x=φ.map (fun r=>(r.1,({t:=t,h:=aps r.2 h}:St)))/\y=φ.map fun r=>(r.1,({t:=t2,h:=aps r.2 h2}:St)))
     ⟨none,by simp,rfl,rfl⟩ (by omega) Y hx (fun h1 x G=>(hs (by omega) x G).one) fun v ef hef=>⟨some (v,efU nid ef),fun r H p m=>?_,by rw[adP]; rfl,by rw[adP]; rfl⟩
    cases H
    cases ef with
    |none=>cases m
    |some B =>
     simp only[efU,dj] at m;subst m;exact .inl ⟨rfl,hef rfl⟩
  cases I:o.op with
  |call c =>
   obtain⟨f,d,tys⟩:=c
   cases f with
   |value f =>
    cases f with
    |func g =>
     rw[I] at hx hs J;have hxa:∀x∈d.toList,ev t2 x=ev t x:=fun x G=>hx x (by simp[Op.operands,Call.operands]; exact .inr (by simpa using G))
     have j:∀x∈d.toList,x∈(Op.call ⟨.value (.func g),d,tys⟩).operands.toList:=fun x G=>by simp[Op.operands,Call.operands]; exact .inr (by simpa using G)
     have he:=Nn hxa
     cases hc:E.clone g with
     |true =>
      have hcls:cls E (.call ⟨.value (.func g),d,tys⟩)=1:=by simp[cls,hc]
      have C:∀(S:St),nk E S o.op=true->∀K,iC E call fid path true S nid o K=match d.toList with
       |[x]=>AX E.P g (E.eat fid (o.dst.getD 0)) S nid (ev S.t x) K
       |_=>none:=fun S Z K=>by
       unfold iC;simp only[Z,Bool.not_true,Bool.and_false];rw[I];simp only[ev,hc,aeJ,Bool.and_self];rfl
      generalize hl:d.toList=l at C he hxa j;rcases l with _|⟨x,_|⟨y,l⟩⟩
      ·exact .no (fun K=>C _ L K) (fun K=>C _ z K)
      ·have hsx:=(hs (by omega) x (j x (by simp))).one;have e1:=hxa x (by simp)
       obtain⟨φ,h1,h2',h3⟩:=aiq (P:=E.P) (g:=g) (fz:=E.eat fid (o.dst.getD 0)) (nid:=nid) (t:=t) (t2:=t2) (σ:=AV×St) (σ2:=AV×St) (K:=fun v S=>some (v,S)) (K2:=fun v S=>some (v,S))
        (R:=fun x y=>∃φ:BY (AV×CK (Nat×Blk)),(∀r,φ=some r->∀p∈r.2,p.1=nid)/\x=φ.map (fun r=>(r.1,({t:=t,h:=aps r.2 h}:St)))/\y=φ.map fun r=>(r.1,{t:=t2,h:=aps r.2 h2}))
        ⟨none,by simp,rfl,rfl⟩ hsx fun v ef=>⟨some (v,efU nid ef),fun r H p m=>by
         cases H
         cases ef with
         |none=>cases m
         |some B=>simp only[efU,dj] at m; rw[m],by rw[adP]; rfl,by rw[adP]; rfl⟩
       refine⟨φ,fun r H p m=>.inl ⟨h1 r H p m,by simpa[ĕ] using hc⟩,fun K=>?_,fun K=>?_⟩
       ·rw[C _ L];simp only;rw[JP,h2']
        cases φ<;>rfl
       ·rw[C _ z];simp only[e1];rw[JP,h3]
        cases φ<;>rfl
      ·exact .no (fun K=>C _ L K) (fun K=>C _ z K)
     |false =>
      have C:∀(S:St),nk E S o.op=true->∀K,iC E call fid path true S nid o K=call path true g (d.toList.map (ev S.t)) S.h fun v h=>K v {t:=S.t,h:=h}:=fun S Z K=>by
       unfold iC;simp only[Z,Bool.not_true,Bool.and_false];rw[I];simp only[ev,hc,aeJ,Bool.false_and,List.nil_append,List.append_nil]
      rcases k with k|⟨k,hse,hce⟩
      ·exact .no (fun K=>by rw[C _ L]; exact k _ _ _ _ _ _) (fun K=>by rw[C _ z]; exact k _ _ _ _ _ _)
      cases m:E.pure g with
      |none =>
       have h1c:1<=cls E (.call ⟨.value (.func g),d,tys⟩):=by simp only[cls,hc,m]; cases E.sort g<;>cases E.compact g<;>simp
       have row:∀(f:CK Blk->AV->(AV->CK Blk->BY ρ)->BY ρ),(∀S K,nk E S o.op=true->iC E call fid path true S nid o K=match d.toList.map (ev S.t) with|[x]=>f S.h x fun v h=>K v {t:=S.t,h:=h}|_=>none)->cls E (.call ⟨.value (.func g),d,tys⟩)=2 ->
        (∀x,(∀id∈refs1 x,lkB h2 id=lkB h id)->∃φ:BY (AV×CK (Nat×Blk)),(∀r,φ=some r->∀p∈r.2,p.1∈refs1 x)/\(∀K,f h x K=φ.bind fun r=>K r.1 (aps r.2 h))/\∀K,f h2 x K=φ.bind fun r=>K r.1 (aps r.2 h2)) ->
        Loc E (.call ⟨.value (.func g),d,tys⟩) nid t h t2 h2 (iC E call fid path true {t:=t,h:=h} nid o) (iC E call fid path true {t:=t2,h:=h2} nid o):=by
        intro f N h2c hloc;generalize hl:d.toList=l at N he j;rcases l with _|⟨x,_|⟨y,l⟩⟩
        ·exact .no (fun K=>N _ K L) (fun K=>N _ K z)
        ·obtain⟨φ,q1,q2,q3⟩:=hloc (ev t x) (hs h1c x (j x (by simp))).one;refine⟨φ,fun r H p m=>.inr ⟨h2c,(qk h1c).2 ⟨x,j x (by simp),by simp only[refs2,dg]; exact .inl (q1 r H p m)⟩⟩,fun K=>?_,fun K=>?_⟩
         ·rw[N _ K L];exact q2 _
         ·rw[N _ K z];simp only[he];exact q3 _
        ·exact .no (fun K=>N _ K L) (fun K=>N _ K z)
       cases U:E.sort g with
       |true =>
        refine row Uk (fun S K Z=>(C S Z K).trans (hse g m U path true _ S.h _)) (by simp[cls,hc,m,U]) fun x hx1=>?_;unfold Uk
        cases x with
        |own id g =>
         have e3:=hx1 id (by simp[refs1,Ő]);simp only[e3]
         cases lkB h id with
         |row ty g' fz xs =>
          cases fz<;>simp only
          ·split
           ·split
            ·split
             ·exact⟨some (_,[(id,_)]),by simp[refs1,Ő],fun K=>rfl,fun K=>rfl⟩
             ·exact⟨none,by simp,fun K=>rfl,fun K=>rfl⟩
            ·exact⟨none,by simp,fun K=>rfl,fun K=>rfl⟩
           ·exact⟨none,by simp,fun K=>rfl,fun K=>rfl⟩
          ·exact⟨none,by simp,fun K=>rfl,fun K=>rfl⟩
         |_=>exact⟨none,by simp,fun K=>rfl,fun K=>rfl⟩
        |nils=>exact⟨some (_,[]),by simp,fun K=>rfl,fun K=>rfl⟩
        |_=>exact⟨none,by simp,fun K=>rfl,fun K=>rfl⟩
       |false =>
        cases hco:E.compact g with
        |true =>
         refine row qt (fun S K Z=>(C S Z K).trans (hce g m U hco path true _ S.h _)) (by simp[cls,hc,m,U,hco]) fun x hx1=>?_;unfold qt
         cases x with
         |own id g =>
          have e3:=hx1 id (by simp[refs1,Ő]);simp only[e3]
          cases lkB h id with
          |row ty g' fz xs =>
           cases fz<;>simp only
           ·split
            ·split
             ·split
              ·exact⟨some (_,[(id,_)]),by simp[refs1,Ő],fun K=>rfl,fun K=>rfl⟩
              ·exact⟨none,by simp,fun K=>rfl,fun K=>rfl⟩
             ·exact⟨none,by simp,fun K=>rfl,fun K=>rfl⟩
            ·exact⟨none,by simp,fun K=>rfl,fun K=>rfl⟩
           ·exact⟨none,by simp,fun K=>rfl,fun K=>rfl⟩
          |_=>exact⟨none,by simp,fun K=>rfl,fun K=>rfl⟩
         |nils=>exact⟨some (_,[]),by simp,fun K=>rfl,fun K=>rfl⟩
         |_=>exact⟨none,by simp,fun K=>rfl,fun K=>rfl⟩
        |false=>simp[cls,hc,m,U,hco] at J
      |some p =>
       have h1c:1<=cls E (.call ⟨.value (.func g),d,tys⟩):=by simp only[cls,hc,m]; cases E.fz g<;>simp
       have hsa:∀a∈d.toList.map (ev t),ph h h2 a:=fun a ha=>by
        obtain⟨x,G,rfl⟩:=dE.1 ha;exact hs h1c x (j x G)
       obtain⟨u,f1,f2,f3⟩:=VJ (cs:=(d.toList.map (ev t)).flatMap mT) hlen fun c hcm id hi=>by
        obtain⟨a,ha,A⟩:=dD.1 hcm;refine(hsa a ha).one id ?_
        cases a<;>first
         |(simp only[mT,dj] at A; subst A; exact hi)
         |(simp only[mT,dj] at A; subst A; cases hi; done)
         |exact dD.2 ⟨c,A,hi⟩
       have f3':∀q∈u,∃x∈d.toList,q.1∈refs2 h (ev t x):=fun q hq=>by
        obtain⟨c,hcm,hi⟩:=f3 q hq;obtain⟨a,ha,A⟩:=dD.1 hcm;obtain⟨x,G,rfl⟩:=dE.1 ha;refine⟨x,G,?_⟩;simp only[refs2,dg];left;generalize ev t x=a at A
        cases a<;>first
         |(simp only[mT,dj] at A; subst A; exact hi)
         |(simp only[mT,dj] at A; subst A; cases hi; done)
         |exact dD.2 ⟨c,A,hi⟩
       have V:∀(b:Bool) (h':CK Blk),E7 h' p.ts (d.toList.map (ev t))=E7 h p.ts (d.toList.map (ev t))->Cs h' ((d.toList.map (ev t)).flatMap mT)=aps u h'->∀(K:AV->CK Blk->BY ρ),
        Uu b p h' (d.toList.map (ev t)) K=(match E7 h p.ts (d.toList.map (ev t)) with
        |some x=>(p.F x).bind fun y=>match MU (Z4 p.rs y) with
         |true=>some (Z4 p.rs y,[])
         |false=>match (d.toList.map (ev t)).all (fun a=>!Qn a) with
          |true=>some (Z4 p.rs y,[])
          |false=>match b||!(d.toList.map (ev t)).all agQ with
           |true=>none
           |false=>some (Z4 p.rs y,u)
        |none=>none).bind fun r=>K r.1 (aps r.2 h'):=fun b h' ha N K=>by
        unfold Uu Ä;rw[ha,N]
        cases E7 h p.ts (d.toList.map (ev t)) with
        |none=>rfl
        |some x =>
         simp only
         cases p.F x with
         |none=>rfl
         |some y =>
          simp only[eT]
          cases MU (Z4 p.rs y) with
          |true=>rfl
          |false=>cases(d.toList.map (ev t)).all (fun a=>!Qn a) with
           |true=>rfl
           |false=>cases b||!(d.toList.map (ev t)).all agQ<;>rfl
       refine⟨_,?_,fun K=>(C _ L K).trans ((k g p m path true _ h _).trans (V (true&&!E.fz g) h rfl f1 _)),fun K=>(C _ z K).trans (by simp only[he]; exact(k g p m path true _ h2 _).trans (V (true&&!E.fz g) h2 (Ud hsa) f2 _))⟩;intro r e q hq
       have hcase:r.2=[]\/(E.fz g=true/\r.2=u):=by
        cases hA:E7 h p.ts (d.toList.map (ev t)) with
        |none=>rw[hA] at e; cases e
        |some x =>
         rw[hA] at e;simp only at e
         cases hF:p.F x with
         |none=>rw[hF] at e; cases e
         |some y =>
          rw[hF] at e;simp only[eT] at e
          split at e
          ·cases e; exact .inl rfl
          ·split at e
           ·cases e; exact .inl rfl
           ·split at e
            ·cases e
            ·rename_i hb;cases e;simp only[eI,gK,fp] at hb;exact .inr ⟨hb.1,rfl⟩
       rcases hcase with hz|⟨hfz,hz⟩
       ·rw[hz] at hq; cases hq
       ·rw[hz] at hq;obtain⟨x,G,hi⟩:=f3' q hq;exact .inr ⟨by simp[cls,hc,m,hfz],(qk h1c).2 ⟨x,j x G,hi⟩⟩
    |tmp s =>
     rw[I] at hx hs J
     obtain⟨g,hg⟩:∃g,E.hint s=some g:=by
      cases hh:E.hint s with
      |none=>simp[cls,hh] at J
      |some g=>exact⟨g,rfl⟩
     have hpf:(E.pure g).isSome=true/\E.fz g=false:=by
      simp only[cls,hg] at J
      split at J
      ·rename_i hb; simpa using hb
      ·omega
     obtain⟨hpg,hfz⟩:=hpf;obtain⟨p,m⟩:=gZ.1 hpg
     have hcls:cls E (.call ⟨.value (.tmp s),d,tys⟩)=1:=by simp[cls,hg,m,hfz]
     have j:∀x∈d.toList,x∈(Op.call ⟨.value (.tmp s),d,tys⟩).operands.toList:=fun x G=>by simp[Op.operands,Call.operands]; exact .inr (by simpa using G)
     have hms:Operand.tmp s∈(Op.call ⟨.value (.tmp s),d,tys⟩).operands.toList:=by simp[Op.operands,Call.operands]
     have he:=Nn fun x G=>hx x (j x G)
     have W:T1 E t (.call ⟨.value (.tmp s),d,tys⟩)=true:=by
      have h1:=L;unfold nk at h1;rw[I] at h1
      have hb1:Nat.ble 1 (cls E (.call ⟨.value (.tmp s),d,tys⟩))=true:=by rw[hcls]; rfl
      simp only[hb1,cY] at h1;exact h1.2
     simp only[T1,hg] at W
     split at W<;>try (cases W; done)
     rename_i g' T O hfn;simp only[cY,dI] at W;obtain⟨hgg,hna,hnb⟩:=W;have hgg:g'=g:=dt hgg;subst hgg;have hfn2:=(hx _ hms).trans hfn
     have C:∀(S:St),nk E S o.op=true->ev S.t (.tmp s)=.fn (.func g') T O->∀K,iC E call fid path true S nid o K=call path true g' (T++(d.toList.map (ev S.t)++O)) S.h fun v h=>K v {t:=S.t,h:=h}:=fun S Z hSf K=>by
      unfold iC;simp only[Z,Bool.not_true,Bool.and_false];rw[I];simp only[hSf,aeJ,Bool.and_false]
     rcases k with k|⟨k,hse,hce⟩
     ·exact .no (fun K=>by rw[C _ L hfn]; exact k _ _ _ _ _ _) (fun K=>by rw[C _ z hfn2]; exact k _ _ _ _ _ _)
     have hcap:∀v,(v∈T\/v∈O)->amB v=true->ph h h2 v:=fun v hv hn id hi=>by
      refine hs (by omega) _ hms id ?_;rw[hfn]
      have e1:Go.Am.refs1 v=agk v:=by cases v<;>first|rfl|cases hn
      simp only[refs2,dg,dD,e1] at hi ⊢
      have hsub:∀i,i∈agk v->i∈Go.Am.refs1 (.fn (.func g') T O):=fun i hi=>by
       simp only[Go.Am.refs1,dg,dD];exact hv.imp (fun h=>⟨v,h,hi⟩) fun h=>⟨v,h,hi⟩
      rcases hi with hi|⟨i,hi,q⟩
      ·exact .inl (hsub _ hi)
      ·exact .inr ⟨i,hsub _ hi,q⟩
     have hsa:∀a∈T++(d.toList.map (ev t)++O),ph h h2 a:=fun a ha=>by
      rcases dg.1 ha with ha|ha
      ·exact hcap a (.inl ha) (hna a ha)
      ·rcases dg.1 ha with ha|ha
       ·obtain⟨x,G,rfl⟩:=dE.1 ha;exact hs (by omega) x (j x G)
       ·exact hcap a (.inr ha) (hnb a ha)
     have V:∀(h':CK Blk),E7 h' p.ts (T++(d.toList.map (ev t)++O))=E7 h p.ts (T++(d.toList.map (ev t)++O))->∀(K:AV->CK Blk->BY ρ),
      Uu (true&&!E.fz g') p h' (T++(d.toList.map (ev t)++O)) K=(match E7 h p.ts (T++(d.toList.map (ev t)++O)) with
      |some x=>(p.F x).bind fun y=>match MU (Z4 p.rs y) with
       |true=>some (Z4 p.rs y,([]:CK (Nat×Blk)))
       |false=>match (T++(d.toList.map (ev t)++O)).all (fun a=>!Qn a) with
        |true=>some (Z4 p.rs y,[])
        |false=>none
      |none=>none).bind fun r=>K r.1 (aps r.2 h'):=fun h' ha K=>by
      unfold Uu Ä;rw[ha,hfz]
      cases E7 h p.ts (T++(d.toList.map (ev t)++O)) with
      |none=>rfl
      |some x =>
       simp only
       cases p.F x with
       |none=>rfl
       |some y =>
        simp only[eT]
        cases MU (Z4 p.rs y) with
        |true=>rfl
        |false=>cases(T++(d.toList.map (ev t)++O)).all (fun a=>!Qn a)<;>rfl
     refine⟨_,?_,fun K=>(C _ L hfn K).trans ((k g' p m path true _ h _).trans (V h rfl _)),fun K=>(C _ z hfn2 K).trans (by simp only[he]; exact(k g' p m path true _ h2 _).trans (V h2 (Ud hsa) _))⟩;intro r e q hq;exfalso
     cases hA:E7 h p.ts (T++(d.toList.map (ev t)++O)) with
     |none=>rw[hA] at e; cases e
     |some x =>
      rw[hA] at e;simp only at e
      cases hF:p.F x with
      |none=>rw[hF] at e; cases e
      |some y =>
       rw[hF] at e;simp only[eT] at e
       split at e
       ·cases e; cases hq
       ·split at e<;>cases e
        cases hq
    |_=>rw[I] at J; simp[cls] at J
   |_=>exact I▸plain fun _ _ _ N=>by rw[I] at N; cases N
  |_=>exact I▸plain fun _ _ _ N=>by rw[I] at N; cases N
def amb {l:CK Operand} (c:∀s∈R0 l,lk t2 s=lk t s):∀x∈l,ev t2 x=ev t x:=by
 induction l with
 |nil=>intro x b; cases b
 |cons y l d =>
  intro x b;rcases dh.1 b with rfl|b
  ·cases x with
   |tmp i=>exact c i (by simp[R0])
   |_=>rfl
  ·refine d (fun s e=>c s ?_) x b
   cases y<;>simp[R0,e]
def abS:∀(t:CK AV) {d c:Nat} (v b:AV),d≠c->upd (upd t d v) c b=upd (upd t c b) d v
 |[],_,_,_,_,_=>rfl
 |_::_,0,0,_,_,h=>absurd rfl h
 |_::_,0,_+1,_,_,_=>rfl
 |_::_,_+1,0,_,_,_=>rfl
 |x::t,d+1,c+1,v,b,h=>by simp only[upd]; rw[abS t v b (by omega)]
def WG:∀(t:CK Blk) {d c:Nat} (v b:Blk),d≠c->č (č t d v) c b=č (č t c b) d v
 |[],_,_,_,_,_=>rfl
 |_::_,0,0,_,_,h=>absurd rfl h
 |_::_,0,_+1,_,_,_=>rfl
 |_::_,_+1,0,_,_,_=>rfl
 |x::t,d+1,c+1,v,b,h=>by simp only[č]; rw[WG t v b (by omega)]
def MK {c b:BY Nat} (hd:∀x,c=some x->b≠some x) (e d:AV):Ā (Ā t c e) b d=Ā (Ā t b d) c e:=by
 cases c with
 |none=>rfl
 |some x=>cases b with
  |none=>rfl
  |some y=>exact abS t e d fun h=>hd x rfl (by rw[h])
def yS {d:BY Nat} {s:Nat} (hd:d≠some s) (v:AV):lk (Ā t d v) s=lk t s:=by
 cases d with
 |none=>rfl
 |some x =>
  simp only[Ā,ahw];rw[if_neg];rintro⟨rfl,_⟩;exact hd rfl
def adO:∀{u v:CK (Nat×Blk)} {h:CK Blk},(∀p∈u,∀q∈v,p.1≠q.1)->aps v (aps u h)=aps u (aps v h)
 |[],_,_,_=>rfl
 |p::u,v,h,c=>by
  show aps v (aps u (č h p.1 p.2))=aps u (č (aps v h) p.1 p.2);rw[adO fun q b=>c q (by simp[b])];congr 1
  have:∀(v:CK (Nat×Blk)) (h:CK Blk),(∀q∈v,p.1≠q.1)->aps v (č h p.1 p.2)=č (aps v h) p.1 p.2:=by
   intro v
   induction v with
   |nil=>intro h _; rfl
   |cons q v d =>
    intro h b;show aps v (č (č h p.1 p.2) q.1 q.2)=č (aps v (č h q.1 q.2)) p.1 p.2;rw[WG _ _ _ (b q (by simp)),d _ fun r e=>b r (by simp[e])]
  exact this v h (c p (by simp))
def Ε (all:CK Oper) (o:Oper) (t:CK AV):BY Bool :=
 match o.guard with
 |none=>some true
 |some (j,want)=>match lk t (qj all j) with
  |.bool b=>some (b==want)
  |.und=>some false
  |_=>none
def yJ (E:Env ρ) (all:CK Oper) (o:Oper) (S:St):CK Nat :=
 match Ε all o S.t with
 |some true=>Ct E S o.op
 |_=>[]
def yz (E:Env ρ) (call:CK Nat->Bool->Nat->CK AV->CK Blk->(AV->CK Blk->BY ρ)->BY ρ) (fid:Nat) (path:CK Nat) (all:CK Oper) (b:CK Nat) (acc:CK (Nat×CK Nat)) (i nid:Nat) (o:Oper) (S:St) (K:CK Nat->St->BY ρ):BY ρ :=
 match Ε all o S.t==some true&&!chk E all b acc i (Ct E S o.op) with
 |true=>none
 |false=>qQ E call fid path true all i nid o S (K (yJ E all o S))
def agG {E:Env ρ} {call:CK Nat->Bool->Nat->CK AV->CK Blk->(AV->CK Blk->BY ρ)->BY ρ} {fid:Nat} {path:CK Nat} {all:CK Oper} {c:CK Nat} {o:Oper} {os:CK Oper} {i nid:Nat} {acc:CK (Nat×CK Nat)} {S:St} {K:St->BY ρ} :
 agH E call fid path all c (o::os) i nid acc S K=yz E call fid path all c acc i nid o S fun F m=>agH E call fid path all c os (i+1) (bif ĕ E.clone o.op then nid+1 else nid) ((i,F)::acc) m K:=by
 have f:∀d b,lk S.t d=.bool b->({t:=upd S.t d (.bool b),h:=S.h}:St)=S:=fun d b hb=>by rw[<-hb,Fk]
 have e:∀d b,lk S.t d=.bool b->upd S.t d (.bool b)=S.t:=fun d b hb=>by rw[<-hb,Fk]
 simp only[agH,yz,qQ,yJ,Ε]
 cases o.guard with
 |none=>cases chk E all c acc i (Ct E S o.op)<;>rfl
 |some g =>
  obtain⟨j,k⟩:=g;simp only
  cases hb:lk S.t (qj all j)<;>try rfl
  rename_i b;have l:=f _ b hb;have h2:=e _ b hb
  cases b<;>cases k<;>simp only[l,h2]<;>first
   |rfl
   |(cases chk E all c acc i (Ct E S o.op)<;>rfl)
def HL {E:Env ρ} {o:Op} (f:∀x∈o.operands.toList,ev t2 x=ev t x) (i:1<=cls E o->∀x∈o.operands.toList,ph h h2 (ev t x)):Ct E {t:=t2,h:=h2} o=Ct E {t:=t,h:=h} o:=by
 unfold Ct
 split
 ·rename_i j;have c:1<=cls E o:=eY j
  have:∀l:CK Operand,(∀x∈l,x∈o.operands.toList)->(l.flatMap fun x=>refs2 h2 (ev t2 x))=l.flatMap fun x=>refs2 h (ev t x):=by
   intro l
   induction l with
   |nil=>intro _; rfl
   |cons x l d =>
    intro b;simp only[dB];rw[f x (b x (by simp)),(i c x (b x (by simp))).refs,d fun y e=>b y (by simp[e])]
  exact this _ fun _ h=>h
 ·rfl
def Ke {all:CK Oper} {o:Oper} (b:∀s∈iY all o,lk t2 s=lk t s):∀x∈o.op.operands.toList,ev t2 x=ev t x:=amb fun s c=>b s (by simp only[iY,dg]; exact .inr c)
def jr {all:CK Oper} {o:Oper} (c:∀s∈iY all o,lk t2 s=lk t s):Ε all o t2=Ε all o t:=by
 unfold Ε
 cases d:o.guard with
 |none=>rfl
 |some g =>
  obtain⟨j,b⟩:=g;simp only;rw[c _ (by simp[iY,d])]
def ajJ {E:Env ρ} {o:Op} (d:1<=cls E o) (b:nk E {t:=t,h:=h} o=true):∀id∈Ct E {t:=t,h:=h} o,lkB h id≠.dead:=fun id hi hd=>by
 obtain⟨x,e,hi⟩:=(qk d).1 hi;unfold nk at b;have c:Nat.ble 1 (cls E o)=true:=Nat.ble_eq_true_of_le d;simp only[c,Bool.and_eq_true,List.all_eq_true] at b;have:=b.1 x e id hi;rw[hd] at this;cases this
def LQ {E:Env ρ} {call:CK Nat->Bool->Nat->CK AV->CK Blk->(AV->CK Blk->BY ρ)->BY ρ} {fid:Nat} {path:CK Nat} {all:CK Oper} {i nid:Nat} {o:Oper} (I:ρ)
 (A:ajy E call) (C:cls E o.op<=2) (q:h2.length=h.length) (G:∀s∈iY all o,lk t2 s=lk t s)
 (L:Ε all o t=some true->1<=cls E o.op->∀x∈o.op.operands.toList,ph h h2 (ev t x)) :
 ∃φ:BY (AV×CK (Nat×Blk)),(∀r,φ=some r->∀p∈r.2,(p.1=nid/\ĕ E.clone o.op=true)\/(cls E o.op=2/\p.1∈yJ E all o {t:=t,h:=h})) /\
  (∀r,φ=some r->∀id∈yJ E all o {t:=t,h:=h},lkB h id≠.dead) /\
  (∀K,qQ E call fid path true all i nid o {t:=t,h:=h} K=φ.bind fun r=>K {t:=Ā t o.dst r.1,h:=aps r.2 h}) /\
  ∀K,qQ E call fid path true all i nid o {t:=t2,h:=h2} K=φ.bind fun r=>K {t:=Ā t2 o.dst r.1,h:=aps r.2 h2}:=by
 have J:=Ke (t:=t) (t2:=t2) (o:=o) G;have d:=jr (t:=t) (t2:=t2) (o:=o) G
 cases e:Ε all o t with
 |none =>
  rw[e] at d
  have:∀(S:St),Ε all o S.t=none->∀K,qQ E call fid path true all i nid o S K=none:=fun S c K=>by
   unfold Ε at c;unfold qQ
   cases k:o.guard with
   |none=>rw[k] at c; cases c
   |some g =>
    obtain⟨j,f⟩:=g;rw[k] at c;simp only at c ⊢
    cases hb:lk S.t (qj all j)<;>rw[hb] at c<;>first|rfl|cases c
  exact⟨none,by simp,by simp,fun K=>this _ e K,fun K=>this _ d K⟩
 |some b =>
  cases b with
  |false =>
   rw[e] at d
   have:∀(S:St),Ε all o S.t=some false->∀K,qQ E call fid path true all i nid o S K=K {t:=Ā S.t o.dst .und,h:=S.h}:=fun S c K=>by
    unfold Ε at c;unfold qQ
    cases k:o.guard with
    |none=>rw[k] at c; cases c
    |some g =>
     obtain⟨j,f⟩:=g;rw[k] at c;simp only at c ⊢
     cases hb:lk S.t (qj all j)<;>rw[hb] at c<;>first|rfl|(cases c; done)|skip
     simp only[Option.some.injEq] at c ⊢;rw[c]
   refine⟨some (.und,[]),?_,?_,fun K=>this _ e K,fun K=>this _ d K⟩
   ·intro r l p B;cases l;cases B
   ·intro r l id hi;simp only[yJ,e] at hi;cases hi
  |true =>
   rw[e] at d
   have m:∀(S:St),Ε all o S.t=some true->∀K,qQ E call fid path true all i nid o S K=iC E call fid (path++[i]) true S nid o fun v S=>K {t:=Ā S.t o.dst v,h:=S.h}:=fun S c K=>by
    unfold Ε at c;unfold qQ
    cases k:o.guard with
    |none=>rfl
    |some g =>
     obtain⟨j,f⟩:=g;rw[k] at c;simp only at c ⊢
     cases hb:lk S.t (qj all j)<;>rw[hb] at c<;>first|(cases c; done)|skip
     simp only[Option.some.injEq] at c ⊢;rw[c]
   obtain⟨φ,R,y,O⟩:=amo (fid:=fid) (path:=path++[i]) (nid:=nid) A C q J (L e)
   have u:yJ E all o {t:=t,h:=h}=Ct E {t:=t,h:=h} o.op:=by simp only[yJ,e]
   refine⟨φ,fun r l p B=>?_,fun r l id hi=>?_,fun K=>by rw[m _ e,y],fun K=>by rw[m _ d,O]⟩
   ·rw[u]; exact R r l p B
   ·rw[u] at hi
    by_cases N:1<=cls E o.op
    ·refine ajJ N ?_ id hi
     cases z:nk E {t:=t,h:=h} o.op with
     |true=>rfl
     |false =>
      exfalso;have H:=y fun v S=>some I;rw[l] at H;simp[iC,z] at H
    ·rw[HK (by omega)] at hi;cases hi
def AW:∀{l m:CK Nat},disj l m=true↔∀x∈l,x∉m
 |[],m=>by simp[disj]
 |x::l,m=>by
  simp only[disj,cY,eQ,eh,dh,forall_eq_or_imp,AW (l:=l)];refine and_congr_left fun _=>⟨fun h c=>h x c (Nat.beq_refl x),fun h y b d=>?_⟩;have:=dt d;subst this;exact h b
structure alC (E:Env ρ) (all:CK Oper) (bef:CK Nat) (ia ib:Nat) (a b:Oper):Prop where
 ha:all[ia]?=some a
 hb:all[ib]?=some b
 a3:cls E a.op<=2
 b3:cls E b.op<=2\/cls E a.op=0
 rb:∀s∈iY all b,a.dst≠some s
 ra:∀s∈iY all a,b.dst≠some s
 dd:∀x,a.dst=some x->b.dst≠some x
 bab:(bef.getD ib 0).testBit ia=false
 bba:(bef.getD ia 0).testBit ib=false
def aio (E:Env ρ) (o:Op):cls E o<=3:=by
 cases o with
 |call c =>
  obtain⟨f,d,tys⟩:=c
  cases f with
  |value f=>cases f<;>simp only[cls]<;>(repeat' split)<;>omega
  |builtin b=>cases b<;>simp[cls]
  |_=>simp[cls]
 |_=>simp[cls]
def abk {E:Env ρ} {all:CK Oper} {c:CK Nat} {ia ib:Nat} {a b:Oper} (e:akP E all a b=false) (ha:all[ia]?=some a) (hb:all[ib]?=some b) (r:(c.getD ib 0).testBit ia=false) (h2:(c.getD ia 0).testBit ib=false):alC E all c ia ib a b:=by
 unfold akP at e;simp only[Bool.or_eq_false_iff,beq_eq_false_iff_ne] at e;obtain⟨⟨⟨⟨_,y,i⟩,l⟩,k⟩,j⟩:=e;have v:=aio E a.op;have u:=aio E b.op
 have f:cls E b.op<=2\/cls E a.op=0:=by
  by_cases q:cls E b.op=3
  ·rw[q] at i;right
   by_cases p:1<=cls E a.op
   ·rw[Nat.ble_eq_true_of_le p] at i; cases i
   ·omega
  ·left; omega
 refine⟨ha,hb,by omega,f,fun s d hd=>?_,fun s d hd=>?_,fun x o m=>?_,r,h2⟩
 ·rw[hd] at l;simp[akc,d] at l
 ·rw[hd] at k;simp[akc,d] at k
 ·rw[o,m] at j;simp at j
def Fv {E:Env ρ} {all:CK Oper} {c:CK Nat} {j i:Nat} {a b:Oper} {e f:CK Nat} (d:Fw E all c j i e f=true) (ha:all[j]?=some a) (hb:all[i]?=some b) (l:(c.getD j 0).testBit i=false) (h2:(c.getD i 0).testBit j=false)
 (k:DU E a.op b.op=true):∀x∈e,x∉f:=by
 unfold Fw at d;simp only[ha,hb,k,l,h2,Bool.not_true,Bool.false_or] at d;exact AW.1 d
def abl {E:Env ρ} {a b:Op}:DU E a b=DU E b a:=by
 unfold DU; cases cls E a==2<;>cases cls E b==2<;>cases Nat.ble 1 (cls E a)<;>cases Nat.ble 1 (cls E b)<;>rfl
def aan {E:Env ρ} {all:CK Oper} {d:CK Nat} {j i:Nat} {e f:CK Nat} (c:Fw E all d j i e f=true):Fw E all d i j f e=true:=by
 unfold Fw at c ⊢
 cases ha:all[j]? with
 |none=>rw[ha] at c; cases c
 |some a=>cases hb:all[i]? with
  |none=>rw[ha,hb] at c; cases c
  |some b =>
   rw[ha,hb] at c;simp only[Bool.or_eq_true,eQ] at c ⊢;rw[abl];rcases c with c|c|c|c
   ·exact .inl c
   ·exact .inr (.inr (.inl c))
   ·exact .inr (.inl c)
   ·exact .inr (.inr (.inr (AW.2 fun x l k=>AW.1 c x k l)))
def qL {E:Env ρ} {a b:Op}:DU E a b=true↔(cls E a=2/\1<=cls E b)\/(1<=cls E a/\cls E b=2):=by
 unfold DU;simp only[Bool.or_eq_true,Bool.and_eq_true,beq_iff_eq,Nat.ble_eq]
def qu {E:Env ρ} {all:CK Oper} {b:CK Nat} {acc:CK (Nat×CK Nat)} {p:Nat×CK Nat} {i:Nat} {F:CK Nat}:chk E all b (p::acc) i F=(Fw E all b p.1 i p.2 F&&chk E all b acc i F):=by
 simp[chk]
def IV {E:Env ρ} {all:CK Oper} {c:CK Nat} {j i:Nat} {a b:Oper} {d:CK Nat} (ha:all[j]?=some a) (hb:all[i]?=some b):Fw E all c j i d []=true:=by
 unfold Fw;simp only[ha,hb,Bool.or_eq_true];exact .inr (.inr (.inr (AW.2 fun x _=>by simp)))
def PA {E:Env ρ} {all:CK Oper} {o:Oper} (c:∀s∈iY all o,lk t2 s=lk t s) (e:Ε all o t=some true->1<=cls E o.op->∀x∈o.op.operands.toList,ph h h2 (ev t x)):yJ E all o {t:=t2,h:=h2}=yJ E all o {t:=t,h:=h}:=by
 unfold yJ;simp only[jr (t:=t) (t2:=t2) c]
 cases d:Ε all o t with
 |none=>rfl
 |some b=>cases b with
  |false=>rfl
  |true=>exact HL (Ke c) (e d)
def ae3 {E:Env ρ} {o:Op} (h:cls E o=0):ĕ E.clone o=false:=by
 cases o with
 |call c =>
  obtain⟨f,d,tys⟩:=c
  cases f with
  |value f=>cases f<;>simp only[cls] at h<;>(repeat' split at h)<;>first|omega|rfl|(cases h; done)
  |builtin b=>cases b<;>simp[cls] at h
  |_=>simp[cls] at h
 |_=>first|rfl|(simp[cls] at h; done)
def aip {E:Env ρ} {o:Op} (h:cls E o=0):TI o=false:=by
 cases o with
 |call c =>
  obtain⟨f,b,tys⟩:=c
  cases f with
  |value f=>cases f<;>simp only[cls] at h<;>(repeat' split at h)<;>first|omega|(cases h; done)
  |_=>rfl
 |_=>rfl
def ajY {E:Env ρ} {call:CK Nat->Bool->Nat->CK AV->CK Blk->(AV->CK Blk->BY ρ)->BY ρ} {fid:Nat} {path:CK Nat} {nid:Nat} {o:Oper} (d:cls E o.op=0) :
 ∃φ:BY AV,∀(t2:CK AV) (h2:CK Blk),(∀x∈o.op.operands.toList,ev t2 x=ev t x)->∀K,iC E call fid path true {t:=t2,h:=h2} nid o K=φ.bind fun v=>K v {t:=t2,h:=h2}:=by
 have b:=aip d;have k:=ae3 d
 have q:∀S:St,∀K,iC E call fid path true S nid o K=opK E.P S nid false o.op K:=fun S K=>by
  have p:nk E S o.op=true:=by
   unfold nk
   have:Nat.ble 1 (cls E o.op)=false:=by rw[d]; rfl
   rw[this]
  have j:RO E true fid o=false:=by
   unfold RO
   cases r:o.op<;>first|rfl|(rw[r] at d; simp[cls] at d; done)
  unfold iC;simp only[p,j,Bool.not_true,Bool.and_false]
  cases i:o.op with
  |call c =>
   obtain⟨f,l,tys⟩:=c;rw[i] at b
   cases f with
   |value f=>cases b
   |_=>rfl
  |_=>rfl
 refine⟨opK E.P {t:=t,h:=[]} nid false o.op fun v _=>some v,fun t2 h2 m K=>?_⟩;rw[q,UK]
 have:=alI (P:=E.P) (E:=E) (o:=o.op) (nid:=nid) (σ:=AV) (σ2:=AV×St) (t:=t) (t2:=t2) (h:=[]) (h2:=h2) (K:=fun v _=>some v) (K2:=fun v S=>some (v,S)) (R:=fun x y=>y=x.map fun v=>(v,({t:=t2,h:=h2}:St)))
  rfl (by omega) b m (fun u=>by omega) fun v s e=>by
   cases s with
   |none=>rfl
   |some B=>rw[k] at e; exact absurd (e rfl) (by simp)
 unfold opR;rw[this]
 cases opK E.P {t:=t,h:=[]} nid false o.op (fun v _=>some v)<;>rfl
def af3 {E:Env ρ} {call:CK Nat->Bool->Nat->CK AV->CK Blk->(AV->CK Blk->BY ρ)->BY ρ} {fid:Nat} {path:CK Nat} {all:CK Oper} {i nid:Nat} {o:Oper} (m:cls E o.op=0) (t:CK AV) :
 ∃φ:BY AV,∀(t2:CK AV) (h2:CK Blk),(∀s∈iY all o,lk t2 s=lk t s)->∀K,qQ E call fid path true all i nid o {t:=t2,h:=h2} K=φ.bind fun v=>K {t:=Ā t2 o.dst v,h:=h2}:=by
 obtain⟨φ,k⟩:=ajY (call:=call) (fid:=fid) (path:=path++[i]) (nid:=nid) (t:=t) m
 cases l:Ε all o t with
 |none =>
  refine⟨none,fun t2 h2 f K=>?_⟩;have c:=(jr (t:=t) (t2:=t2) f).trans l;unfold Ε at c;unfold qQ
  cases e:o.guard with
  |none=>rw[e] at c; cases c
  |some g =>
   obtain⟨j,d⟩:=g;rw[e] at c;simp only at c ⊢
   cases hb:lk t2 (qj all j)<;>rw[hb] at c<;>first|rfl|cases c
 |some b =>
  cases b with
  |false =>
   refine⟨some .und,fun t2 h2 f K=>?_⟩;have c:=(jr (t:=t) (t2:=t2) f).trans l;unfold Ε at c;unfold qQ
   cases e:o.guard with
   |none=>rw[e] at c; cases c
   |some g =>
    obtain⟨j,d⟩:=g;rw[e] at c;simp only at c ⊢
    cases hb:lk t2 (qj all j)<;>rw[hb] at c<;>first|rfl|(cases c; done)|skip
    simp only[Option.some.injEq] at c ⊢;rw[c];rfl
  |true =>
   refine⟨φ,fun t2 h2 f K=>?_⟩;have c:=(jr (t:=t) (t2:=t2) f).trans l;have p:=k t2 h2 (Ke f);unfold Ε at c;unfold qQ
   cases e:o.guard with
   |none=>exact p _
   |some g =>
    obtain⟨j,d⟩:=g;rw[e] at c;simp only at c ⊢
    cases hb:lk t2 (qj all j)<;>rw[hb] at c<;>first|(cases c; done)|skip
    simp only[Option.some.injEq] at c ⊢;rw[c];exact p _
def agf {E:Env ρ} {call:CK Nat->Bool->Nat->CK AV->CK Blk->(AV->CK Blk->BY ρ)->BY ρ} {fid:Nat} {path:CK Nat} {nid:Nat} {o:Oper} (d:cls E o.op=3) (k:∀x∈o.op.operands.toList,ev t2 x=ev t x) (K:AV->St->BY ρ) :
 iC E call fid path true {t:=t2,h:=h} nid o K=iC E call fid path true {t:=t,h:=h} nid o fun v S=>K v {t:=t2,h:=S.h}:=by
 have m:nk E {t:=t2,h:=h} o.op=nk E {t:=t,h:=h} o.op:=PT k fun _ _ _ _ _=>rfl;unfold iC;rw[m]
 cases r:o.op with
 |call c =>
  obtain⟨f,e,tys⟩:=c;rw[r] at k d
  cases f with
  |value f =>
   have u:ev t2 f=ev t f:=k f (by simp[Op.operands,Call.operands]);have i:∀x∈e.toList,ev t2 x=ev t x:=fun x s=>k x (by simp[Op.operands,Call.operands]; exact .inr (by simpa using s));have z:=Nn i;simp only[u,z]
   cases j:ev t f with
   |fn g fa fb =>
    cases g with
    |func g =>
     simp only
     cases p:E.clone g&&aeJ f with
     |false=>rfl
     |true =>
      exfalso;rw[cY] at p
      cases f with
      |func g' =>
       have:g'=g:=by simp only[ev] at j; cases j; rfl
       subst this;simp[cls,p.1] at d
      |_=>simp[aeJ] at p
    |_=>rfl
   |yld =>
    simp only;rcases q:e.toList with _|⟨x,_|⟨y,l⟩⟩
    ·rfl
    ·simp only; rw[i x (by rw[q]; simp)]
    ·rfl
   |_=>rfl
  |builtin b=>cases b<;>simp[cls] at d
  |_=>rfl
 |_=>rw[r] at d; simp[cls] at d
def ad4 {E:Env ρ} {call:CK Nat->Bool->Nat->CK AV->CK Blk->(AV->CK Blk->BY ρ)->BY ρ} {fid:Nat} {path:CK Nat} {all:CK Oper} {i nid:Nat} {o:Oper} (l:cls E o.op=3) (e:∀s∈iY all o,lk t2 s=lk t s) :
 ∃Ψ:(AV->CK Blk->BY ρ)->BY ρ,(∀K,qQ E call fid path true all i nid o {t:=t,h:=h} K=Ψ fun v h'=>K {t:=Ā t o.dst v,h:=h'})/\∀K,qQ E call fid path true all i nid o {t:=t2,h:=h} K=Ψ fun v h'=>K {t:=Ā t2 o.dst v,h:=h'}:=by
 have key:∀c:CK AV,(∀s∈iY all o,lk c s=lk t s)->∀K,qQ E call fid path true all i nid o {t:=c,h:=h} K=(fun k:AV->CK Blk->BY ρ=>match Ε all o t with
  |none=>none
  |some false=>k .und h
  |some true=>iC E call fid (path++[i]) true {t:=t,h:=h} nid o fun v S=>k v S.h) fun v h'=>K {t:=Ā c o.dst v,h:=h'}:=fun c e K=>by
  have f:=jr (t:=t) (t2:=c) (o:=o) e;have m:=agf (call:=call) (fid:=fid) (path:=path++[i]) (nid:=nid) (h:=h) l (Ke e);rw[<-f];unfold Ε qQ
  cases q:o.guard with
  |none=>exact m _
  |some g =>
   obtain⟨j,d⟩:=g;simp only
   cases hb:lk c (qj all j) with
   |bool b =>
    simp only
    cases p:b==d with
    |true=>exact m _
    |false=>rfl
   |_=>rfl
 exact⟨fun k:AV->CK Blk->BY ρ=>match Ε all o t with
  |none=>none
  |some false=>k .und h
  |some true=>iC E call fid (path++[i]) true {t:=t,h:=h} nid o fun v S=>k v S.h,key t fun _ _=>rfl,key t2 e⟩
def Zj {E:Env ρ} {all:CK Oper} {o:Oper} (b:cls E o.op=0) (S:St):yJ E all o S=[]:=by
 unfold yJ
 split
 ·exact HK b
 ·rfl
def swap0 {E:Env ρ} {call:CK Nat->Bool->Nat->CK AV->CK Blk->(AV->CK Blk->BY ρ)->BY ρ} {fid:Nat} {path:CK Nat} {all:CK Oper} {d:CK Nat} {acc:CK (Nat×CK Nat)} {ia na ib nb:Nat} {a b:Oper} {K:CK Nat->CK Nat->St->BY ρ} {r:ρ}
 (p:alC E all d ia ib a b) (ha:cls E a.op=0) (hb:cls E b.op=3)
 (e:yz E call fid path all d acc ia na a {t:=t,h:=h} (fun u S=>yz E call fid path all d ((ia,u)::acc) ib nb b S (K u))=some r) :
 yz E call fid path all d acc ib nb b {t:=t,h:=h} (fun G S=>yz E call fid path all d ((ib,G)::acc) ia na a S fun u=>K u G)=some r:=by
 obtain⟨φ,m⟩:=af3 (call:=call) (fid:=fid) (path:=path) (all:=all) (i:=ia) (nid:=na) ha t;unfold yz at e
 split at e<;>try (cases e; done)
 rename_i j;rw[m t h fun _ _=>rfl] at e;obtain⟨q,H,l⟩:=iQ e;simp only at l
 split at l<;>try (cases l; done)
 rename_i c;have f:∀s∈iY all b,lk (Ā t a.dst q) s=lk t s:=fun s A=>yS (p.rb s A) _;obtain⟨Ψ,J,I⟩:=ad4 (call:=call) (fid:=fid) (path:=path) (all:=all) (i:=ib) (nid:=nb) (h:=h) hb f;rw[I] at l;have y:Ε all b (Ā t a.dst q)=Ε all b t:=jr f;have B:Ct E {t:=Ā t a.dst q,h:=h} b.op=Ct E {t:=t,h:=h} b.op:=HL (Ke f) fun _ _ _ _ _=>rfl;have C:yJ E all b {t:=Ā t a.dst q,h:=h}=yJ E all b {t:=t,h:=h}:=PA f fun _ _ _ _ _ _=>rfl;unfold yz
 split
 ·rename_i x;exfalso;rw[B,y,qu] at c
  cases N:Ε all b t==some true<;>rw[N] at x c<;>simp only[Bool.false_and,eI,eQ,fp,dr] at x c
  rw[x,Bool.and_false] at c;cases c
 ·rw[J];rw[<-l];congr 1;funext v h';have o:∀s∈iY all a,lk (Ā t b.dst v) s=lk t s:=fun s A=>yS (p.ra s A) _;have z:Ε all a (Ā t b.dst v)=Ε all a t:=jr o
  have k:¬((Ε all a (Ā t b.dst v)==some true&&!chk E all d ((ib,yJ E all b {t:=t,h:=h})::acc) ia (Ct E {t:=Ā t b.dst v,h:=h'} a.op))=true):=by
   rw[z,HK ha,qu,IV p.hb p.ha,eI];rw[HK ha] at j;exact eG.1 j
  dsimp only
  split
  ·rename_i L; exact absurd L k
  ·rw[m _ _ o,H,eT,Zj ha,Zj ha,C,MK p.dd]
def swap {E:Env ρ} {call:CK Nat->Bool->Nat->CK AV->CK Blk->(AV->CK Blk->BY ρ)->BY ρ} {fid:Nat} {path:CK Nat} {all:CK Oper} {m:CK Nat} {acc:CK (Nat×CK Nat)} {ia na ib nb:Nat} {a b:Oper} {K:CK Nat->CK Nat->St->BY ρ} {r:ρ}
 (hpe:ajy E call) (j:alC E all m ia ib a b) (hbd:ĕ E.clone b.op=true->lkB h nb=.dead) (hn:ĕ E.clone a.op=true->ĕ E.clone b.op=true->na≠nb)
 (hfar1:ĕ E.clone a.op=true->∀x∈b.op.operands.toList,na∉refs1 (ev t x))
 (hfar:1<=cls E b.op->ĕ E.clone a.op=true->(∀p∈acc,∀c,all[p.1]?=some c->DU E c.op b.op=true->(m.getD ib 0).testBit p.1=false->(m.getD p.1 0).testBit ib=false->∀x∈b.op.operands.toList,∀id∈refs1 (ev t x),id∉p.2)->∀x∈b.op.operands.toList,na∉refs2 h (ev t x))
 (e:yz E call fid path all m acc ia na a {t:=t,h:=h} (fun Fa S=>yz E call fid path all m ((ia,Fa)::acc) ib nb b S (K Fa))=some r) :
 yz E call fid path all m acc ib nb b {t:=t,h:=h} (fun Fb S=>yz E call fid path all m ((ib,Fb)::acc) ia na a S fun Fa=>K Fa Fb)=some r:=by
 by_cases hb3:cls E b.op<=2
 case neg =>
  have:=aio E b.op;exact swap0 j (j.b3.resolve_left hb3) (by omega) e
 -- what a does
 obtain⟨φa,a0,a1,a2,_⟩:=LQ (t:=t) (t2:=t) (h:=h) (h2:=h) (call:=call) (fid:=fid) (path:=path) (i:=ia) (nid:=na) (all:=all) r hpe j.a3 rfl (fun _ _=>rfl) (fun _ _ _ _ _ _=>rfl);unfold yz at e
 split at e<;>try (cases e; done)
 rename_i L;rw[a2] at e;obtain⟨⟨va,W⟩,q1,q2⟩:=iQ e;simp only at q2
 split at q2<;>try (cases q2; done)
 rename_i d;have hal1:=a1 _ q1;have hea:=a0 _ q1;simp only at hea
 -- b looks at the same
 have G:∀s∈iY all b,lk (Ā t a.dst va) s=lk t s:=fun s hs=>yS (j.rb s hs) _;have htb':∀s∈iY all b,lk t s=lk (Ā t a.dst va) s:=fun s hs=>(G s hs).symm;have O:=Ke G;have hwb:Ε all b (Ā t a.dst va)=Ε all b t:=jr G
 have C:1<=cls E b.op->Ε all b t=some true->chk E all m ((ia,yJ E all a {t:=t,h:=h})::acc) ib (Ct E {t:=Ā t a.dst va,h:=aps W h} b.op)=true:=fun _ f=>by
  rw[hwb,f] at d;simpa using d
 have hone:Ε all b t=some true->1<=cls E b.op->∀x∈b.op.operands.toList,∀id∈refs1 (ev t x),lkB (aps W h) id=lkB h id:=fun f u x z id hi=>by
  refine Ue fun p V k=>?_;rcases hea p V with⟨h2,o⟩|⟨h2,o⟩
  ·exact hfar1 o x z (by rw[<-h2,k]; exact hi)
  ·have H:=C u f;rw[qu,cY] at H;refine Fv H.1 j.ha j.hb j.bba j.bab (qL.2 (.inl ⟨h2,u⟩)) p.1 o ?_;rw[k];refine(qk u).2 ⟨x,z,?_⟩;rw[O x z];simp only[refs2,dg];exact .inl hi
 have hrefs:Ε all b t=some true->1<=cls E b.op->∀x∈b.op.operands.toList,refs2 (aps W h) (ev t x)=refs2 h (ev t x):=fun f u x z=>by
  have:∀(l:CK Nat),(∀id∈l,lkB (aps W h) id=lkB h id)->(l.flatMap fun id=>(P3 (lkB (aps W h) id)).flatMap Ő)=l.flatMap fun id=>(P3 (lkB h id)).flatMap Ő:=by
   intro l
   induction l with
   |nil=>intro _; rfl
   |cons y l ih=>intro hl; simp only[dB]; rw[hl y (by simp),ih fun id hi=>hl id (by simp[hi])]
  simp only[refs2];rw[this _ (hone f u x z)]
 have I:Ε all b t=some true->1<=cls E b.op->ĕ E.clone a.op=true->∀x∈b.op.operands.toList,na∉refs2 h (ev t x):=fun f u h2=>hfar u h2 fun p V c hc1 hc2 hb1 hb2 x z id hi k=>by
  have H:=C u f;rw[qu,cY] at H;have hk2:=dI.1 H.2 p V;refine Fv hk2 hc1 j.hb hb2 hb1 hc2 id k ((qk u).2 ⟨x,z,?_⟩);rw[O x z];simp only[refs2,dg];exact .inl hi
 have B:Ε all b t=some true->1<=cls E b.op->∀x∈b.op.operands.toList,ph h (aps W h) (ev t x):=fun f u x z id hi=>by
  refine Ue fun p V k=>?_;rcases hea p V with⟨h2,o⟩|⟨h2,o⟩
  ·exact I f u o x z (by rw[<-h2,k]; exact hi)
  ·have H:=C u f;rw[qu,cY] at H;refine Fv H.1 j.ha j.hb j.bba j.bab (qL.2 (.inl ⟨h2,u⟩)) p.1 o ?_;rw[k];refine(qk u).2 ⟨x,z,?_⟩;rw[O x z,hrefs f u x z];exact hi
 -- what b does
 obtain⟨φb,b0,b1,b2,b3⟩:=LQ (t:=t) (t2:=Ā t a.dst va) (h:=h) (h2:=aps W h) (call:=call) (fid:=fid) (path:=path) (i:=ib) (nid:=nb) (all:=all) r hpe hb3 (vU _ _) G B;have hfb:yJ E all b {t:=Ā t a.dst va,h:=aps W h}=yJ E all b {t:=t,h:=h}:=PA G B;rw[b3] at q2;obtain⟨⟨vb,eb⟩,q3,q4⟩:=iQ q2;simp only at q4;rw[hfb] at q4;have heb:=b0 _ q3;simp only at heb;have hfo:Ε all b t=some true->Ct E {t:=Ā t a.dst va,h:=aps W h} b.op=Ct E {t:=t,h:=h} b.op:=fun f=>HL O (B f)
 -- a looks at the same
 have T:∀s∈iY all a,lk (Ā t b.dst vb) s=lk t s:=fun s hs=>yS (j.ra s hs) _
 have J:DU E a.op b.op=true->∀id∈yJ E all a {t:=t,h:=h},id∉yJ E all b {t:=t,h:=h}:=fun hcl id hi hj=>by
  unfold yJ at hj;simp only at hj
  split at hj
  ·rename_i f
   have u:1<=cls E b.op:=by rcases qL.1 hcl with h|h<;>omega
   have H:=C u f;rw[qu,cY,hfo f] at H;exact Fv H.1 j.ha j.hb j.bba j.bab hcl id hi hj
  ·cases hj
 have v:Ε all a t=some true->1<=cls E a.op->∀x∈a.op.operands.toList,ph h (aps eb h) (ev t x):=fun f u x z id hi=>by
  have Y:id∈yJ E all a {t:=t,h:=h}:=by
   unfold yJ;simp only[f];exact(qk u).2 ⟨x,z,hi⟩
  refine Ue fun p V k=>?_;rcases heb p V with⟨h2,o⟩|⟨h2,o⟩
  ·exact hal1 id Y (by rw[<-k,h2]; exact hbd o)
  ·exact J (qL.2 (.inr ⟨u,h2⟩)) id Y (k▸o)
 obtain⟨φa',a0',a1',a2',a3'⟩:=LQ (t:=t) (t2:=Ā t b.dst vb) (h:=h) (h2:=aps eb h) (call:=call) (fid:=fid) (path:=path) (i:=ia) (nid:=na) (all:=all) r hpe j.a3 (vU _ _) T v;have hfa:yJ E all a {t:=Ā t b.dst vb,h:=aps eb h}=yJ E all a {t:=t,h:=h}:=PA T v
 have o:qQ E call fid path true all ia na a {t:=t,h:=h} (fun S=>K (yJ E all a {t:=t,h:=h}) (yJ E all b {t:=t,h:=h}) {t:=Ā S.t b.dst vb,h:=aps eb S.h})=some r:=by rw[a2,q1]; exact q4
 rw[a2'] at o;obtain⟨⟨va',ea'⟩,q5,q6⟩:=iQ o;simp only at q6;have Z:=a0' _ q5;simp only at Z
 have hcomm:aps eb (aps ea' h)=aps ea' (aps eb h):=adO fun p V q hq U=>by
  rcases Z p V with⟨h2,o⟩|⟨h2,o⟩<;>rcases heb q hq with⟨h4,N⟩|⟨h4,N⟩
  ·exact hn o N (by rw[<-h2,<-h4]; exact U)
  ·-- b would write a's new block
   have f:Ε all b t=some true:=by
    unfold yJ at N;simp only at N
    split at N
    ·assumption
    ·cases N
   have h5':q.1∈Ct E {t:=t,h:=h} b.op:=by
    unfold yJ at N;simp only[f] at N;exact N
   obtain⟨x,z,hi⟩:=(qk (by omega)).1 h5';exact I f (by omega) o x z (by rw[<-h2,U]; exact hi)
  ·exact hal1 p.1 o (by rw[U,h4]; exact hbd N)
  ·exact J (qL.2 (.inl ⟨h2,by omega⟩)) p.1 o (by rw[U]; exact N)
 rw[MK j.dd,hcomm] at q6
 -- the checks
 have chb:(Ε all b t==some true&&!chk E all m acc ib (Ct E {t:=t,h:=h} b.op))=false:=by
  cases f:Ε all b t==some true with
  |false=>rfl
  |true =>
   have R:Ε all b t=some true:=by simpa using f
   rw[hwb,f] at d;simp only[eI,fp] at d ⊢;rw[qu,cY,hfo R] at d;exact d.2
 have cha:(Ε all a (Ā t b.dst vb)==some true&&!chk E all m ((ib,yJ E all b {t:=t,h:=h})::acc) ia (Ct E {t:=Ā t b.dst vb,h:=aps eb h} a.op))=false:=by
  rw[jr T]
  cases f:Ε all a t==some true with
  |false=>rfl
  |true =>
   have R:Ε all a t=some true:=by simpa using f
   rw[f] at L;simp only[eI,fp] at L ⊢;rw[HL (Ke T) (v R),qu,cY];refine⟨aan ?_,L⟩
   have hfa0:yJ E all a {t:=t,h:=h}=Ct E {t:=t,h:=h} a.op:=by simp only[yJ,R]
   cases A:Ε all b t with
   |some wb=>cases wb with
    |true =>
     rw[hwb,A] at d;simp only[beq_self_eq_true,eI,fp] at d;rw[qu,cY,hfo A,hfa0] at d;simp only[yJ,A];exact d.1
    |false=>simp only[yJ,A]; exact IV j.ha j.hb
   |none=>simp only[yJ,A]; exact IV j.ha j.hb
 unfold yz;simp only[chb];rw[b2,q3];simp only[Option.bind_some,cha];rw[a3',q5];simp only[Option.bind_some];rw[hfa];exact q6
abbrev Item:=Nat×Nat×Oper
def pv (clone:Nat->Bool):CK Oper->Nat->Nat->CK Item
 |[],_,_=>[]
 |o::os,i,nid=>(i,nid,o)::pv clone os (i+1) (bif ĕ clone o.op then nid+1 else nid)
def ab4 (E:Env ρ) (call:CK Nat->Bool->Nat->CK AV->CK Blk->(AV->CK Blk->BY ρ)->BY ρ) (fid:Nat) (path:CK Nat) (all:CK Oper) (b:CK Nat):CK Item->CK (Nat×CK Nat)->St->(St->BY ρ)->BY ρ
 |[],_,S,K=>K S
 |x::l,acc,S,K=>yz E call fid path all b acc x.1 x.2.1 x.2.2 S fun F S=>ab4 E call fid path all b l ((x.1,F)::acc) S K
def XN {E:Env ρ} {call:CK Nat->Bool->Nat->CK AV->CK Blk->(AV->CK Blk->BY ρ)->BY ρ} {fid:Nat} {path:CK Nat} {all:CK Oper} {b:CK Nat}:∀(os:CK Oper) (i nid:Nat) (acc:CK (Nat×CK Nat)) (S:St) (K:St->BY ρ),
 agH E call fid path all b os i nid acc S K=ab4 E call fid path all b (pv E.clone os i nid) acc S K
 |[],_,_,_,_,_=>rfl
 |o::os,i,nid,acc,S,K=>by
  rw[agG];simp only[pv,ab4];congr 1;funext F S';exact XN os _ _ _ S' K
def akS {E:Env ρ} {all:CK Oper} {c:CK Nat} {acc b:CK (Nat×CK Nat)} {i:Nat} {F:CK Nat} (h:∀p,p∈acc↔p∈b):chk E all c acc i F=chk E all c b i F:=by
 rw[eM];simp only[chk,dI]
 exact forall_congr' fun p=>by rw[h p]
def W7 {E:Env ρ} {call:CK Nat->Bool->Nat->CK AV->CK Blk->(AV->CK Blk->BY ρ)->BY ρ} {fid:Nat} {path:CK Nat} {all:CK Oper} {c:CK Nat} {K:St->BY ρ}:∀(l:CK Item) {acc b:CK (Nat×CK Nat)} (S:St),(∀p,p∈acc↔p∈b) ->
 ab4 E call fid path all c l acc S K=ab4 E call fid path all c l b S K
 |[],_,_,_,_=>rfl
 |x::l,acc,b,S,h=>by
  simp only[ab4,yz];rw[akS h]
  split
  ·rfl
  ·congr 1;funext S'
   exact W7 l S' fun p=>by simp[h p]
def al3 {E:Env ρ} {call:CK Nat->Bool->Nat->CK AV->CK Blk->(AV->CK Blk->BY ρ)->BY ρ} {fid:Nat} {path:CK Nat} {all:CK Oper} {f:CK Nat} {b:Item} {rest:CK Item} {K:St->BY ρ} {r:ρ} {h0:CK Blk} {t0:CK AV}
 (v:ajy E call) :
 ∀(as:CK Item) (acc:CK (Nat×CK Nat)) (t:CK AV) (h:CK Blk),(∀a∈as,alC E all f a.1 b.1 a.2.2 b.2.2)->(∀s∈iY all b.2.2,lk t s=lk t0 s)->(ĕ E.clone b.2.2.op=true->lkB h b.2.1=.dead) ->
  (∀a∈as,ĕ E.clone a.2.2.op=true->ĕ E.clone b.2.2.op=true->a.2.1≠b.2.1)->(∀a∈as,ĕ E.clone a.2.2.op=true->∀x∈b.2.2.op.operands.toList,a.2.1∉refs2 h0 (ev t0 x)) ->
  (1<=cls E b.2.2.op->∀x∈b.2.2.op.operands.toList,∀id∈refs1 (ev t0 x),lkB h id=lkB h0 id\/∃p∈acc,(∃c,all[p.1]?=some c/\DU E c.op b.2.2.op=true/\(f.getD b.1 0).testBit p.1=false/\(f.getD p.1 0).testBit b.1=false)/\id∈p.2) ->
  ab4 E call fid path all f (as++b::rest) acc {t:=t,h:=h} K=some r->ab4 E call fid path all f (b::(as++rest)) acc {t:=t,h:=h} K=some r
 |[],acc,t,h,_,_,_,_,_,_,e=>e
 |a::as,acc,t,h,L,ht,A,Y,hfar,hinv,e=>by
  have C:=L a (by simp);have m:∀x∈b.2.2.op.operands.toList,ev t x=ev t0 x:=Ke ht
  have H:ĕ E.clone a.2.2.op=true->∀x∈b.2.2.op.operands.toList,a.2.1∉refs1 (ev t x):=fun j x k hi=>hfar a (by simp) j x k (by
   rw[m x k] at hi;simp only[refs2,dg]
   exact .inl hi)
  simp only[fe,ab4] at e ⊢
  have fin:=swap (K:=fun R O S=>ab4 E call fid path all f (as++rest) ((b.1,O)::(a.1,R)::acc) S K) (r:=r) (t:=t) (h:=h) (acc:=acc) (ia:=a.1) (na:=a.2.1) (ib:=b.1) (nb:=b.2.1) (a:=a.2.2) (b:=b.2.2) (fid:=fid) (path:=path) v C A (Y a (by simp)) H
   (fun T j V x k=>by
    rw[m x k];have q:∀id∈refs1 (ev t0 x),lkB h id=lkB h0 id:=fun id hi=>(hinv T x k id hi).resolve_right fun⟨p,o,⟨c,c1,c2,c3,c4⟩,d⟩=>V p o c c1 c2 c3 c4 x k id (by rw[m x k]; exact hi) d
    have:refs2 h (ev t0 x)=refs2 h0 (ev t0 x):=by
     have key:∀(l:CK Nat),(∀id∈l,lkB h id=lkB h0 id)->(l.flatMap fun id=>(P3 (lkB h id)).flatMap Ő)=l.flatMap fun id=>(P3 (lkB h0 id)).flatMap Ő:=by
      intro l
      induction l with
      |nil=>intro _; rfl
      |cons y l ih=>intro hl; simp only[dB]; rw[hl y (by simp),ih fun id hi=>hl id (by simp[hi])]
     simp only[refs2];rw[key _ q]
    rw[this]
    exact hfar a (by simp) j x k) ?_
  ·have u:∀(R O:CK Nat) (S:St),ab4 E call fid path all f (as++rest) ((b.1,O)::(a.1,R)::acc) S K=ab4 E call fid path all f (as++rest) ((a.1,R)::(b.1,O)::acc) S K:=fun R O S=>W7 _ S fun p=>by
    simp only[dh]
    constructor<;>rintro(h|h|h)<;>simp[h]
   simp only[u] at fin;exact fin
  ·-- behind a
   obtain⟨φa,a0,a1,a2,_⟩:=LQ (t:=t) (t2:=t) (h:=h) (h2:=h) (call:=call) (fid:=fid) (path:=path) (i:=a.1) (nid:=a.2.1) (all:=all) r v C.a3 rfl (fun _ _=>rfl) (fun _ _ _ _ _ _=>rfl);unfold yz at e ⊢
   split at e<;>try (cases e; done)
   rename_i I;simp only[I];rw[a2] at e ⊢;obtain⟨⟨va,ea⟩,U,Z⟩:=iQ e;rw[U];simp only[eT];have N:=a1 _ U;have z:=a0 _ U;simp only at z Z;refine al3 v as _ _ _ (fun c J=>L c (by simp[J])) (fun s hs=>(yS (C.rb s hs) _).trans (ht s hs)) (fun j=>?_) (fun c J=>Y c (by simp[J])) (fun c J=>hfar c (by simp[J])) (fun T x k id hi=>?_) Z
   ·refine(Ue fun p o d=>?_).trans (A j);rcases z p o with⟨h2,B⟩|⟨h2,B⟩
    ·exact Y a (by simp) B j (h2.symm.trans d)
    ·exact N p.1 B (by rw[d]; exact A j)
   ·by_cases G:∃p∈ea,p.1=id
    ·obtain⟨p,o,d⟩:=G;rcases z p o with⟨h2,B⟩|⟨h2,B⟩
     ·exfalso;exact H B x k (by rw[m x k,<-h2,d]; exact hi)
     ·exact .inr ⟨(a.1,_),List.mem_cons_self ..,⟨a.2.2,C.ha,qL.2 (.inl ⟨h2,T⟩),C.bab,C.bba⟩,d▸B⟩
    ·have W:lkB (aps ea h) id=lkB h id:=Ue fun p o d=>G ⟨p,o,d⟩;rw[W];rcases hinv T x k id hi with h2|⟨p,o,h2⟩
     ·exact .inl h2
     ·exact .inr ⟨p,by simp[o],h2⟩
section
variable {ν:Nat->Value} {w:World}
def VR0.refs {a:AV} {v:Value} (c:VR0 ν h w a v):∀id∈Ő a,lkB h id≠.dead:=by
 intro id hi hd
 cases a<;>simp only[Ő,dj,ik] at hi
 ·subst hi; obtain⟨_,t,g',fz,xs,b,_⟩:=c; rw[hd] at b; cases b
 ·subst hi; obtain⟨_,t,g',fz,xs,b,_⟩:=c; rw[hd] at b; cases b
 ·subst hi; obtain⟨_,t,g',fz,b,_⟩:=c; rw[hd] at b; cases b
 ·subst hi; obtain⟨_,_,b,_⟩:=c; rw[hd] at b; cases b
 ·subst hi; obtain⟨_,t,g',fz,xs,b,_⟩:=c; rw[hd] at b; cases b
def VR1.refs {a:AV} {v:Value} (b:VR1 ν h w a v):∀id∈Ő a,lkB h id≠.dead:=by
 cases c:a.isFn with
 |true=>cases a<;>first|(cases c; done)|(intro id hi; cases hi)
 |false=>rw[yy c] at b; exact b.refs
def ē.left_mem {α β:Type} {R:α->β->Prop}:∀{l:CK α} {m:CK β},ē R l m->∀a∈l,∃b∈m,R a b
 |[],_,_,a,ha=>by cases ha
 |x::l,y::m,h,a,ha=>by
  rcases dh.1 ha with rfl|ha
  ·exact⟨y,by simp,h.1⟩
  ·obtain⟨b,hb,c⟩:=ē.left_mem h.2 a ha;exact⟨b,by simp[hb],c⟩
 |_::_,[],h,_,_=>h.elim
def VR.refs1 {a:AV} {v:Value} (j:VR ν h w a v):∀id∈Go.Am.refs1 a,lkB h id≠.dead:=by
 cases d:a.isAgg with
 |true =>
  cases a<;>try cases d
  obtain⟨us,_,h2⟩:=j;intro id hi;simp only[Go.Am.refs1,dD] at hi;obtain⟨c,i,hi⟩:=hi;obtain⟨u,_,b⟩:=h2.left_mem c i;exact b.1.refs id hi
 |false =>
  cases e:a.isTup with
  |true=>cases a<;>first|(cases e; done)|(intro id hi; cases hi)
  |false =>
   have k:=j.one d e;have h2:=k.refs
   cases a with
   |fn f fa fb =>
    obtain⟨fs,cs,_,m,l⟩:=k
    have one:∀c u,VR0 ν h w c u->∀id∈agk c,lkB h id≠.dead:=fun c u b id hi=>by
     cases c with
     |agg=>exact b.elim
     |_=>exact b.refs id hi
    intro id hi;simp only[Go.Am.refs1,dg,dD] at hi;rcases hi with⟨c,i,hi⟩|⟨c,i,hi⟩
    ·obtain⟨u,_,b⟩:=m.left_mem c i;exact one c u b id hi
    ·obtain⟨u,_,b⟩:=l.left_mem c i;exact one c u b id hi
   |agg=>cases d
   |_=>exact h2
def VR.refs2 (H:HR ν h w) {a:AV} {v:Value} (k:VR ν h w a v):∀id∈Go.Am.refs2 h a,lkB h id≠.dead:=by
 intro id hi;simp only[Go.Am.refs2,dg,dD] at hi;rcases hi with hi|⟨j,p,c,d,hi⟩
 ·exact k.refs1 id hi
 ·have i:=H.blk j
  cases f:lkB h j with
  |cells cs =>
   rw[f] at i d;obtain⟨b,o,e,_,_,m⟩:=i;obtain⟨u,_,l⟩:=m.left_mem c d;exact l.1.refs id hi
  |_=>rw[f] at d; cases d
end
end
end Go.Am
end

noncomputable section
namespace Go.Am
variable [Ghost]
section
variable {ρ:Type} {ν:Nat->Value} {h:CK Blk} {w:World}
def ai8 (acc:CK Nat) (o:Oper):Nat:=o.after.toList.foldl (fun s e=>if Region.binds .any e then s ||| 2 ^ e.on ||| acc.getD e.on 0 else s) 0
def JU:∀(os:CK Oper) (acc:CK Nat),∃l,Η os acc=acc++l/\∀(k:Nat) (o:Oper),os[k]?=some o->(acc++l).getD (acc.length+k) 0=ai8 ((acc++l).take (acc.length+k)) o
 |[],acc=>⟨[],by simp[Η],by simp⟩
 |o::os,acc=>by
  obtain⟨l,c,h2⟩:=JU os (acc++[ai8 acc o]);refine⟨ai8 acc o::l,?_,?_⟩
  ·simp only[Η];show Η os (acc++[ai8 acc o])=_;rw[c]; simp
  ·intro k o' b
   cases k with
   |zero =>
    simp only[fR,Option.some.injEq] at b;subst b;simp[List.getD]
   |succ k =>
    have:=h2 k o' (by simpa using b);simp only[di,List.singleton_append,dc,dH] at this;rw[show acc.length+(k+1)=acc.length+1+k by omega];exact this
def ai7 {os:CK Oper} {k:Nat} {o:Oper} (b:os[k]?=some o):(Η os []).getD k 0=ai8 ((Η os []).take k) o:=by
 obtain⟨l,c,h2⟩:=JU os [];rw[c];simpa using h2 k o b
def VL {acc:CK Nat} {i:Nat}:∀(es:CK Edge) (s:Nat),(es.foldl (fun s e=>if Region.binds .any e then s ||| 2 ^ e.on ||| acc.getD e.on 0 else s) s).testBit i=true ->
 s.testBit i=true\/∃e∈es,Region.binds .any e=true/\(i=e.on\/(acc.getD e.on 0).testBit i=true)
 |[],s,h=>.inl h
 |e::es,s,h=>by
  simp only[gy] at h;rcases VL es _ h with b|⟨d,c,b⟩
  ·split at b
   ·rename_i hb;simp only[Nat.testBit_or,Bool.or_eq_true,Nat.testBit_two_pow,decide_eq_true_eq] at b;rcases b with(b|b)|b
    ·exact .inl b
    ·exact .inr ⟨e,by simp,hb,.inl b.symm⟩
    ·exact .inr ⟨e,by simp,hb,.inr b⟩
   ·exact .inl b
  ·exact .inr ⟨d,by simp[c],b⟩
def AU {E:Env ρ} {all:CK Oper} {e:CK Nat}:∀{bs:CK Oper} {c:Nat},BS E all e bs c=true->∀(k:Nat) (b:Oper),bs[k]?=some b->∀(i:Nat) (a:Oper),i<c+k->all[i]?=some a->akP E all a b=false\/(e.getD (c+k) 0).testBit i=true
 |[],_,_,k,b,d,_,_,_,_=>by simp at d
 |x::bs,c,h,k,b,d,i,a,hi,ha=>by
  simp only[BS,cY,dI,fh] at h
  cases k with
  |zero =>
   simp only[fR,Option.some.injEq] at d;subst d;have:=h.1 i (by omega);rw[ha] at this;simp only[Bool.or_eq_true,eQ] at this;simpa using this
  |succ k =>
   have:=AU h.2 k b (by simpa using d) i a (by omega) ha
   rwa [show c+1+k=c+(k+1) by omega] at this
def yb:∀{os:CK Oper} {j:Nat},ZL os j=true->∀(k:Nat) (o:Oper),os[k]?=some o->∀e∈o.after,Region.binds .any e=true->e.on<j+k
 |[],_,_,k,o,b,_,_,_=>by simp at b
 |x::os,j,h,k,o,b,e,c,hb=>by
  simp only[ZL,cY,dI] at h
  cases k with
  |zero =>
   simp only[fR,Option.some.injEq] at b;subst b;have:=h.1 e (by simpa using c);simp only[hb,dR,Bool.false_or,decide_eq_true_eq] at this;omega
  |succ k =>
   have:=yb h.2 k o (by simpa using b) e c hb;omega
def bef_lt {os:CK Oper} (hb:ZL os 0=true):∀(j i:Nat),((Η os []).getD j 0).testBit i=true->i<j:=by
 intro j
 induction j using Nat.strongRecOn with
 |ind j e =>
  intro i hi
  cases d:os[j]? with
  |none =>
   obtain⟨l,k,_⟩:=JU os []
   have c:∀(os:CK Oper) (acc:CK Nat),(Η os acc).length=acc.length+os.length:=by
    intro os
    induction os with
    |nil=>intro acc; simp[Η]
    |cons o os e=>intro acc; simp only[Η]; rw[e]; simp; omega
   have:(Η os [])[j]?=none:=by
    rw[List.getElem?_eq_none_iff] at d ⊢;rw[c]; simpa using d
   simp[List.getD,this] at hi
  |some o =>
   rw[ai7 d] at hi;rcases VL _ _ hi with m|⟨ed,k,h2,f⟩
   ·simp at m
   ·have b:=yb hb j o d ed (by simpa using k) h2;rw[dL] at b;rcases f with rfl|f
    ·exact b
    ·have:((Η os []).getD ed.on 0).testBit i=true:=by
      rw[<-f];congr 1;simp only[List.getD,eA];rw[if_pos (by omega)]
     exact Nat.lt_trans (e ed.on b i this) b
def rN {clone:Nat->Bool}:∀{os:CK Oper} {i nid:Nat} {x:Item},x∈pv clone os i nid->∃k,os[k]?=some x.2.2/\x.1=i+k/\nid<=x.2.1/\(ĕ clone x.2.2.op=true->x.2.1<nid+i5 clone os)
 |[],_,_,_,c=>by cases c
 |o::os,i,nid,x,c=>by
  simp only[pv,dh] at c;rcases c with rfl|c
  ·exact⟨0,by simp,rfl,cZ _,fun h=>by rw[ou]; simp only at h; rw[h]; simp⟩
  ·obtain⟨k,f,h2,d,e⟩:=rN c;refine⟨k+1,by simpa using f,by omega,?_,fun h=>?_⟩
   ·cases b:ĕ clone o.op<;>rw[b] at d<;>simp at d<;>omega
   ·have:=e h;rw[ou]
    cases b:ĕ clone o.op<;>rw[b] at this<;>simp at this ⊢<;>omega
def Hx {clone:Nat->Bool}:∀{os:CK Oper} {i nid k:Nat} {o:Oper},os[k]?=some o->∃n,(i+k,n,o)∈pv clone os i nid
 |[],_,_,k,_,h=>by simp at h
 |x::os,i,nid,0,o,h=>by
  simp only[fR,Option.some.injEq] at h;subst h;exact⟨nid,by simp[pv]⟩
 |x::os,i,nid,k+1,o,h=>by
  obtain⟨n,b⟩:=Hx (clone:=clone) (i:=i+1) (nid:=bif ĕ clone x.op then nid+1 else nid) (os:=os) (k:=k) (o:=o) (by simpa using h);exact⟨n,by simp only[pv,dh]; right; rwa [show i+(k+1)=i+1+k by omega]⟩
def JA {clone:Nat->Bool}:∀{os:CK Oper} {i nid:Nat},(pv clone os i nid).Pairwise fun x y=>x.1<y.1/\(ĕ clone x.2.2.op=true->x.2.1<y.2.1)
 |[],_,_=>List.Pairwise.nil
 |o::os,i,nid=>by
  refine List.Pairwise.cons (fun y d=>?_) JA;obtain⟨k,_,h2,c,_⟩:=rN d;refine⟨by simp only; omega,fun b=>?_⟩;simp only at b;rw[b] at c;simp at c ⊢;omega
def aeU {l:CK Item} {p e:Item->Bool} {b:Item} (k:l.Pairwise fun x y=>x.1<y.1) (hb:b∈l) (j:p b=true) (d:∀x∈l,e x=(p x&&x.1 != b.1)) :
 ∃as rest,l.filter p=as++b::rest/\l.filter e=as++rest/\∀a∈as,a∈l/\p a=true/\a.1<b.1:=by
 obtain⟨i,f,rfl⟩:=List.append_of_mem hb;rw[gb] at k;obtain⟨_,h2,q⟩:=k;have m:∀x∈i,x.1<b.1:=fun x c=>q x c b (by simp);have o:∀x∈f,b.1<x.1:=fun x c=>(dJ.1 h2).1 x c;refine⟨i.filter p,f.filter p,by simp[j],?_,fun a ha=>?_⟩
 ·have u:i.filter e=i.filter p:=List.filter_congr fun x c=>by
   rw[d x (by simp[c])]
   have:(x.1 != b.1)=true:=by have:=m x c; simp; omega
   rw[this]; simp
  have s:f.filter e=f.filter p:=List.filter_congr fun x c=>by
   rw[d x (by simp[c])]
   have:(x.1 != b.1)=true:=by have:=o x c; simp; omega
   rw[this]; simp
  have r:e b=false:=by rw[d b (by simp)]; simp
  simp[u,s,r]
 ·rw[dX] at ha;exact⟨by simp[ha.1],ha.2,m a ha.1⟩
def ach {α:Type} {R:α->α->Prop}:∀{l:CK α},l.Pairwise R->∀x∈l,∀y∈l,x=y\/R x y\/R y x
 |[],_,_,c,_,_=>by cases c
 |z::l,h,x,c,y,b=>by
  rw[dJ] at h;rcases dh.1 c with c|c
  ·rcases dh.1 b with b|b
   ·exact .inl (c.trans b.symm)
   ·rw[c]; exact .inr (.inl (h.1 y b))
  ·rcases dh.1 b with b|b
   ·rw[b]; exact .inr (.inr (h.1 x c))
   ·exact ach h.2 x c y b
def akK {E:Env ρ} {call:CK Nat->Bool->Nat->CK AV->CK Blk->(AV->CK Blk->BY ρ)->BY ρ} {L:Nat} (hE:nc E L call) {fid:Nat} {path:CK Nat} {d:Array Oper} (hp:path.length+1=L) (hg:uh d.toList d.toList=true)
 (hd:ah9 E d.toList=true) {base:Nat} {K:St->BY ρ} {r:ρ} {Q:Exit->Act->World->Prop} {m:Nat} (hmb:m<=base) :
 ∀(B:Nat) (c:Array Bool) (acc:CK (Nat×CK Nat)) (S:St) (a:Act) (ν:Nat->Value) (w:World),c.size=d.size ->
  (∀j i,c.getD j false=true->((Η d.toList []).getD j 0).testBit i=true->c.getD i false=true) ->
  ((pv E.clone d.toList 0 base).filter fun x=>!c.getD x.1 true).length=B->Sim ν S a w ->
  (∀x∈(pv E.clone d.toList 0 base).filter fun x=>!c.getD x.1 true,ĕ E.clone x.2.2.op=true->x.2.1<S.h.length/\lkB S.h x.2.1=.dead)->m<=S.h.length ->
  ab4 E call fid path d.toList (Η d.toList []) ((pv E.clone d.toList 0 base).filter fun x=>!c.getD x.1 true) acc S K=some r ->
  (∀ν' Y a' w',Sim ν' Y a' w'->Ev m ν S.h w ν' Y.h w'->m<=Y.h.length->Dd m S.h Y.h->K Y=some r->Q .normal a' w') ->
  wpAnyIn fen 0 E.P .any d Q B c a w:=by
 simp only[ah9,cY] at hd;obtain⟨G,hdr⟩:=hd
 have A:∀{c:Array Bool} {j:Nat},c.size=d.size->j<d.size->c.getD j true=c.getD j false:=fun {c j} hs hj=>by
  have:j<c.size:=by omega
  simp[this]
 have hpw:=(JA (clone:=E.clone) (os:=d.toList) (i:=0) (nid:=base)).imp fun {x y} h=>h.1;intro B
 induction B with
 |zero =>
  intro c acc S a ν w R hcl z H q hm e hQ;have Z:=dv.1 z;refine⟨?_,?_⟩
  ·rw[List.eq_nil_iff_forall_not_mem];intro j hj;obtain⟨h0,o,ho,_⟩:=mem_ready.1 hj;obtain⟨n,hn⟩:=Hx (clone:=E.clone) (i:=0) (nid:=base) (os:=d.toList) (k:=j) (o:=o) (by simpa using ho);have:(0+j,n,o)∈(pv E.clone d.toList 0 base).filter fun x=>!c.getD x.1 true:=dX.2 ⟨hn,by simp only[dL]; rw[h0]; rfl⟩;rw[Z] at this;cases this
  ·rw[Z] at e;exact hQ ν S a w H (Ev.refl _ _ _ _) hm (Dd.refl _ _) e
 |succ B ih =>
  intro c acc S a ν w R hcl z H q hm e hQ;refine⟨fun hr=>?_,fun j hj=>?_⟩
  ·-- the first of those that are left is ready
   exfalso
   cases f:(pv E.clone d.toList 0 base).filter fun x=>!c.getD x.1 true with
   |nil=>rw[f] at z; simp at z
   |cons x l =>
    have p:x∈(pv E.clone d.toList 0 base).filter fun x=>!c.getD x.1 true:=by rw[f]; simp
    rw[dX] at p;obtain⟨k,s,h2,_⟩:=rN p.1
    have hk:x.1=k:=by omega
    have I:x.1∈Region.ready .any d c:=mem_ready.2 ⟨by simpa using p.2,x.2.2,by rw[hk]; simpa using s,fun ed hed hb=>by
     have hlt:=yb G k x.2.2 s ed hed hb
     have hks:k<d.size:=by
      have:=(de.1 s).1;simpa using this
     cases hl:c.getD ed.on false with
     |true=>rfl
     |false =>
      exfalso;obtain⟨o',ho'⟩:∃o',d.toList[ed.on]?=some o':=⟨_,cX (by simp; omega)⟩;obtain⟨n,hn⟩:=Hx (clone:=E.clone) (i:=0) (nid:=base) ho'
      have V:(0+ed.on,n,o')∈x::l:=by
       rw[<-f];refine dX.2 ⟨hn,?_⟩;simp only[dL];rw[A R (by omega),hl];rfl
      have hpl:(x::l).Pairwise fun x y=>x.1<y.1:=by rw[<-f]; exact hpw.filter _
      rcases dh.1 V with W|W
      ·rw[<-W] at hk; simp at hk; omega
      ·have:=(dJ.1 hpl).1 _ W
       simp only at this; omega⟩
    rw[hr] at I;cases I
  ·obtain⟨h0,o,ho,hed⟩:=mem_ready.1 hj;have hjs:j<d.size:=(fG.1 ho).1
   have O:d.toList[j]?=some o:=by simpa using ho
   obtain⟨n,hn⟩:=Hx (clone:=E.clone) (i:=0) (nid:=base) O;rw[dL] at hn
   have hpp:∀x∈pv E.clone d.toList 0 base,(fun x:Item=>!(c.setIfInBounds j true).getD x.1 true) x=((fun x:Item=>!c.getD x.1 true) x&&x.1 != j):=fun x p=>by
    by_cases N:x.1=j
    ·simp only[N]
     have:j<c.size:=by omega
     simp[this]
    ·have s:(c.setIfInBounds j true).getD x.1 true=c.getD x.1 true:=getD_set_ne true (Ne.symm N)
     have h2:(x.1 != j)=true:=by simpa using N
     simp only[s,h2,Bool.and_true]
   obtain⟨as,rest,f1,f2,f3⟩:=aeU (b:=(j,n,o)) hpw hn (by simp only[h0]; rfl) hpp
   have hbit:∀i,((Η d.toList []).getD j 0).testBit i=true->c.getD i false=true:=fun i hi=>by
    rw[ai7 O] at hi;rcases VL _ _ hi with hz|⟨ed,s,h2,W⟩
    ·simp at hz
    ·have hl:=hed ed (by simpa using s) h2;rcases W with rfl|W
     ·exact hl
     ·refine hcl ed.on i hl ?_;have hlt:=yb G j o O ed (by simpa using s) h2;rw[<-W];congr 1;simp only[List.getD,eA];rw[if_pos (by omega)]
   have T:=JA (clone:=E.clone) (os:=d.toList) (i:=0) (nid:=base)
   have C:((j,n,o):Item)∈(pv E.clone d.toList 0 base).filter fun x=>!c.getD x.1 true:=by rw[f1]; simp
   have hne:∀x∈(pv E.clone d.toList 0 base).filter (fun x=>!c.getD x.1 true),x≠(j,n,o)->ĕ E.clone x.2.2.op=true->ĕ E.clone o.op=true->x.2.1≠n:=fun x p N s h2=>by
    have hsub:((pv E.clone d.toList 0 base).filter fun x=>!c.getD x.1 true).Pairwise fun x y=>x.1<y.1/\(ĕ E.clone x.2.2.op=true->x.2.1<y.2.1):=T.filter _;rcases ach hsub x p _ C with he|hr|hr
    ·exact absurd he N
    ·exact gH (hr.2 s)
    ·exact(gH (hr.2 h2)).symm
   rw[f1] at e
   have e':=al3 (b:=(j,n,o)) (h0:=S.h) (t0:=S.t) (K:=K) (r:=r) hE.pureEq as acc S.t S.h (fun x p=>by
    obtain⟨g1,g2,g3⟩:=f3 x p;obtain⟨k,s,h2,_⟩:=rN g1
    have hk:x.1=k:=by omega
    have hkj:k<j:=by simp only at g3; omega
    have hnb:((Η d.toList []).getD j 0).testBit k=false:=by
     cases hb:((Η d.toList []).getD j 0).testBit k with
     |false=>rfl
     |true =>
      exfalso;have hl:=hbit k hb;simp only[eQ] at g2;rw[A R (by omega),hk,hl] at g2;cases g2
    have hnb2:((Η d.toList []).getD k 0).testBit j=false:=by
     cases hb:((Η d.toList []).getD k 0).testBit j with
     |false=>rfl
     |true=>have:=bef_lt G k j hb; omega
    have:=AU hdr j o O k x.2.2 (by omega) s;rw[dL,hnb] at this;rw[<-hk] at s hnb hnb2
    exact abk (this.resolve_right (by simp)) s O hnb hnb2)
    (fun _ _=>rfl)
    (fun J=>(q _ C J).2)
    (fun x p s h2=>hne x (by rw[f1]; simp[p]) (fun he=>by
     have:=(f3 x p).2.2;rw[he] at this
     simp at this) s h2)
    (fun x p s y hy hmem=>VR.refs2 H.heap (Œ H y) _ hmem ((q x (by rw[f1]; simp[p]) s).2)) (fun _ _ _ _ _=>.inl rfl) e
   simp only[ab4,yz] at e'
   split at e'<;>try (cases e'; done)
   refine ME hE.call hE.plain hE.clone hE.yld hg hp ho H (fun J=>q _ C J) e' fun ν' w' u v Y g1 g2 g3 g4 g5 g6 g7=>?_;have f:((pv E.clone d.toList 0 base).filter fun x=>!(c.setIfInBounds j true).getD x.1 true)=as++rest:=f2
   have V:∀x∈as++rest,x∈(pv E.clone d.toList 0 base).filter fun x=>!c.getD x.1 true:=fun x p=>by
    rw[f1]
    rcases dg.1 p with p|p<;>simp[p]
   have hnj:∀x∈as++rest,x≠(j,n,o):=fun x p he=>by
    rw[<-f,dX] at p;rw[he] at p
    have hlt:j<c.size:=by omega
    simp[hlt] at p
   have hm':m<=Y.h.length:=dw hm g4;refine ih (c.setIfInBounds j true) ((j,yJ E d.toList o S)::acc) {t:=Ā Y.t o.dst v,h:=Y.h} _ ν' w' (by simpa using R) (fun j' i s h2=>?_) ?_ ?_ (fun x p J=>?_) hm' ?_ fun ν'' S'' a'' w'' q1 q2 q3 q4 q5=>hQ ν'' S'' a'' w'' q1 ((g3.mono hm).trans q2 (cZ _)) q3 (fun i hi hdi=>q4 i hi ?_) q5
   ·by_cases hjj:j=j'
    ·subst hjj;exact getD_set_true (hbit i h2)
    ·rw[getD_set_ne false hjj] at s;exact getD_set_true (hcl j' i s h2)
   ·rw[f];rw[f1] at z;simp only[dc,dk] at z ⊢;omega
   ·rw[g6];exact H.put g3 g2 o.dst g1
   ·rw[f] at p;obtain⟨s,h2⟩:=q x (V x p) J;refine⟨by simp only; omega,g5 _ s ?_ h2⟩
    by_cases U:ĕ E.clone o.op=true
    ·exact .inl (hne x (V x p) (hnj x p) J U)
    ·exact .inr (by simpa using U)
   ·rw[f];exact g7
   ·refine g5 i (by omega) ?_ hdi
    by_cases U:ĕ E.clone o.op=true
    ·left;obtain⟨k,_,_,W,_⟩:=rN hn;simp only at W;show i≠n;omega
    ·exact .inr (by simpa using U)
def nR {E:Env ρ} (hmix:E.P.follows .mixedOrders=true) (L:Nat) (call:CK Nat->Bool->Nat->CK AV->CK Blk->(AV->CK Blk->BY ρ)->BY ρ) (C:nc E L call):wC E L call:=by
 intro fid rid path b S a K r m ν w z e H A;unfold MP at e
 split at e<;>try (cases e; done)
 rename_i s;simp only[eI,gK,fp] at s;apply wpIn_region_any hmix;have c:=fun id=>Vw S.h (i5 E.clone b.toList) id;have V:Sim ν {t:=S.t,h:=S.h++List.replicate (i5 E.clone b.toList) .dead} a {w with drawn:=w.drawn+1}:=H.same c rfl rfl rfl rfl;have v:Ev m ν S.h w ν (S.h++List.replicate (i5 E.clone b.toList) .dead) {w with drawn:=w.drawn+1}:=Ev.same (w:=w) (w':={w with drawn:=w.drawn+1}) c rfl rfl rfl rfl m
 have d:((pv E.clone b.toList 0 S.h.length).filter fun x=>!(Array.replicate b.size false).getD x.1 true)=pv E.clone b.toList 0 S.h.length:=by
  rw[gN];intro x l;obtain⟨k,p,h2,_⟩:=rN l
  have q:k<b.size:=by
   have:=(de.1 p).1;simpa using this
  have:x.1=k:=by omega
  simp[this,q]
 have f:∀(os:CK Oper) (i nid:Nat),(pv E.clone os i nid).length=os.length:=by
  intro os
  induction os with
  |nil=>intros; rfl
  |cons o os y=>intro i nid; simp[pv,y]
 refine akK (fid:=fid) (base:=S.h.length) (K:=K .normal) (r:=r) C z s.2 s.1 A b.size _ [] {t:=S.t,h:=S.h++List.replicate (i5 E.clone b.toList) .dead} a ν _ (by simp) (fun j i p _=>?_) ?_ V (fun x l u=>?_) ?_ ?_ fun ν' U W w' T R O N J=>⟨ν',U,T,v.trans R (cZ _),O,fun j B hd=>N j B (by simp only[c]; exact hd),J⟩
 ·exfalso;rcases dq j b.size with h|h
  ·simp[h] at p
  ·simp[h] at p
 ·rw[d,f]; simp
 ·rw[d] at l;obtain⟨k,_,_,I,G⟩:=rN l;have:=G u;refine⟨by simp; omega,?_⟩;simp only[c];exact Y7 _ _ I
 ·simp; omega
 ·rw[d,<-XN];exact e
end
end Go.Am
end
