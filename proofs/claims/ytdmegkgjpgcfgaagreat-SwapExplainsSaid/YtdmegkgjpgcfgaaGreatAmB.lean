/- lemmas -/
import Derived.Test.YtdmegkgjpgcfgaaGreatAmA
import Derived.OrdersIn
import Derived.RangeFuncSeq
import Derived.RangeFuncRecord
import Derived.LoopNIn
import Derived.RangeFuncLeaves
set_option linter.all false
noncomputable section
namespace Go.Am
variable [Ghost]
section
variable {ν ν':Nat->Value} {w w':World} {P:Program}
def aha (ν:Nat->Value) (S:St) (w:World) (r:Result Next) (v:AV) (b:St):Prop :=
 ∃ν' w' u,(r=.ok (.value u) w'\/(r=.ok .skip w'/\u=undef))/\VR ν' b.h w' v u/\HR ν' b.h w'/\Ev S.h.length ν S.h w ν' b.h w'/\b.h.length=S.h.length/\b.t=S.t
def jr.step {S:St} {x:Sem Value} {v:AV} {h':BY Blk} (hd:jr P ν S.h w x v h') :
 aha ν S w ((do let u <-x; pure (.value u):Sem Next).run P w) v {t:=S.t,h:=h'}:=by
 obtain⟨ν',w',u,e,h2,d,c,b⟩:=hd;refine⟨ν',w',u,.inl ?_,h2,d,c,b,rfl⟩;simp[e]
def aha.still {S:St} {r:Result Next} {v:AV} {u:Value} (H:HR ν S.h w) (c:r=.ok (.value u) w) (b:VR ν S.h w v u):aha ν S w r v S :=
 ⟨ν,w,u,.inl c,b,H,Ev.refl _ _ _ _,rfl,rfl⟩
def Zo {S:St} {x:Sem Unit} {h':BY Blk} (hd:∃w',x.run P w=.ok () w'/\HR ν h' w'/\Ev S.h.length ν S.h w ν h' w'/\h'.length=S.h.length) :
 aha ν S w ((do x; pure .skip:Sem Next).run P w) .any {t:=S.t,h:=h'}:=by
 obtain⟨w',e,d,c,b⟩:=hd;refine⟨ν,w',undef,.inr ⟨?_,rfl⟩,trivial,d,c,b,rfl⟩;simp[e]
def aiZ {a:AV} {v:Value} {h:BY Blk} (hi:isV0 a=true) (b:VR ν h w a v):VR0 ν h w a v:=by
 have d:a.isFn=false:=by cases a<;>first|rfl|cases hi
 have h2:a.isAgg=false:=by cases a<;>first|rfl|cases hi
 have c:a.isTup=false:=by cases a<;>first|rfl|cases hi
 rwa [zc c,BJ h2,yU d] at b
def Ĕ.of_map {α β γ:Type} {R:β->γ->Prop} {f:α->β} {g:α->γ}:∀{l:BY α},(∀x∈l,R (f x) (g x))->Ĕ R (l.map f) (l.map g)
 |[],_=>trivial
 |x::l,h=>⟨h x (by simp),Ĕ.of_map fun y b=>h y (by simp[b])⟩
def alh (k:IntKind) (a b:Int):(Builtin.max2 (.int k a) (.int k b)).run P w=.ok (.int k (T7 a b)) w:=rfl
def alg (k:IntKind) (a b:Int):(Builtin.min2 (.int k a) (.int k b)).run P w=.ok (.int k (adh a b)) w:=rfl
def ahR {S:St} {a:Act} {x y:Operand} (h:EC x y=true):a.eval x=a.eval y:=by
 unfold EC at h
 split at h
 ·have:=eq_of_beq h; subst this; rfl
 ·have:=of_decide_eq_true h; subst this; rfl
 ·cases h
def iP {α β:Type} {x:BE α} {f:α->BE β} {r:β} (h:x.bind f=some r):∃a,x=some a/\f a=some r:=by
 cases x with
 |none=>cases h
 |some a=>exact⟨a,rfl,h⟩
def arr1 {α:Type} {a:Array α} {x:α} (h:a.toList=[x]):a=#[x]:=fw (by simpa using h)
def arr2 {α:Type} {a:Array α} {x y:α} (h:a.toList=[x,y]):a=#[x,y]:=fw (by simpa using h)
def lR {S:St} {a:Act} {o:Oper} {b:Builtin} {d:Array Operand} {tys:Array TypeId} {f:Array TypeId->TypeId->Array Value->Sem Value} (e:o.op=.call ⟨.builtin b,d,tys⟩)
 (hb:∀c vs,builtin b tys o.type c vs=(do pure (.value (<-f tys o.type vs)):Sem Next)) :
 execOp a.eval o=(do let u <-f tys o.type (d.map a.eval); pure (.value u)):=by
 unfold execOp;rw[e];simp only[resolve,pure_bind,invoke,hb]
def alr {S S':St} {a:Act} {o:Oper} {nid:Nat} {eat:Bool} {v:AV} {clone:Nat->Bool} (H:Sim ν S a w) (hn:Ė clone o.op=true->nid<S.h.length/\lkB S.h nid=.dead)
 (e:opR P S nid eat o.op=some (v,S')):aha ν S w ((execOp a.eval o).run P w) v S':=by
 have I:=H.heap
 cases A:o.op with
 |move x =>
  rw[A] at e; cases e;exact aha.still I (by unfold execOp; rw[A]; rfl) (Ō H x)
 |assign x =>
  rw[A] at e; cases e;exact aha.still I (by unfold execOp; rw[A]; rfl) (Ō H x)
 |pick c x y =>
  rw[A] at e;simp only[opR,opK] at e
  split at e<;>try (cases e; done)
  rename_i b hb;have N:=Ō H c;rw[hb] at N;have N:a.eval c=.bool b:=N
  have C:(execOp a.eval o).run P w=.ok (.value (if b then a.eval x else a.eval y)) w:=by unfold execOp; rw[A]; simp[asBool,N]
  split at e
  ·cases e; exact aha.still I C (Ō H x)
  ·cases e; exact aha.still I C (Ō H y)
 |box el x =>
  rw[A] at e;simp only[opR,opK] at e
  split at e<;>try (cases e; done)
  rename_i cs O
  have C:execOp a.eval o=(do let u <-Instr.box el (a.eval x); pure (.value u)):=by unfold execOp; rw[A]
  rw[C]
  split at e
  ·split at e<;>try (cases e; done)
   split at e<;>try (cases e; done)
   rename_i y U;cases e;exact(aor I O U (Ō H x)).step
  ·cases e;obtain⟨E,h2⟩:=hn (by rw[A]; rfl);exact(box_ok I E h2 O (Ō H x)).step
 |alloc el =>
  rw[A] at e;simp only[opR,opK] at e
  split at e<;>try (cases e; done)
  rename_i z hz
  split at e<;>try (cases e; done)
  rename_i cs O;cases e;obtain⟨E,h2⟩:=hn (by rw[A]; rfl)
  have C:execOp a.eval o=(do let u <-Instr.alloc el true (.tuple #[]); pure (.value u)):=by unfold execOp; rw[A]
  rw[C];exact(amA I E h2 hz O).step
 |build t ps =>
  rw[A] at e;simp only[opR,opK] at e
  have C:execOp a.eval o=(do let u <-Instr.build t (ps.map fun(i,x)=>(i,a.eval x)); pure (.value u)):=by unfold execOp; rw[A]
  rw[C]
  split at e<;>try (cases e; done)
  ·rename_i fs K
   split at e<;>try (cases e; done)
   rename_i hfs
   split at e<;>try (cases e; done)
   rename_i z hz
   split at e<;>try (cases e; done)
   rename_i zs W
   split at e<;>try (cases e; done)
   rename_i cs O;cases e;exact(Ui H K hfs hz W O).step
  ·rename_i n el K
   split at e<;>try (cases e; done)
   rename_i sz z Z hz
   split at e<;>try (cases e; done)
   rename_i zs W
   split at e<;>try (cases e; done)
   rename_i cs O;cases e;exact(adK H K Z hz W O).step
 |buildSlice t n ps =>
  rw[A] at e
  have C:execOp a.eval o=(do let u <-Instr.buildSlice t n (ps.map fun(i,x)=>(i,a.eval x)); pure (.value u)):=by unfold execOp; rw[A]
  rw[C];obtain⟨E,h2⟩:=hn (by rw[A]; rfl);simp only[opR,opK] at e
  split at e<;>try (cases e; done)
  rename_i el hel
  split at e<;>try (cases e; done)
  rename_i ty hty
  split at e<;>try (cases e; done)
  rename_i N;simp only[dg,beq_iff_eq,decide_eq_true_eq] at N
  split at e<;>try (cases e; done)
  rename_i xs hxs;cases e;exact(YV H E h2 hel N.1 N.2.1 N.2.2 hxs).step
 |load t x =>
  rw[A] at e;simp only[opR,opK] at e;rw[wq] at e;obtain⟨R,E,h2⟩:=iP e;cases h2
  have C:execOp a.eval o=(do let u <-Instr.loadAt t (a.eval x); pure (.value u)):=by unfold execOp; rw[A]
  rw[C];obtain⟨u,L,V⟩:=aiO I E (Ō H x);exact(jr.still I L V).step
 |store t x y =>
  rw[A] at e;simp only[opR,opK] at e
  have C:execOp a.eval o=(do Instr.storeAt t (a.eval x) (a.eval y); pure .skip):=by unfold execOp; rw[A]
  rw[C]
  split at e
  ·split at e<;>try (cases e; done)
   rename_i id g lo n hsub
   split at e<;>try (cases e; done)
   rename_i ty g' xs hl
   split at e<;>try (cases e; done)
   rename_i N;simp only[dg,beq_iff_eq,decide_eq_true_eq] at N;obtain⟨rfl,hln⟩:=N;rw[qD] at e;obtain⟨h',E,h2⟩:=iP e;cases h2;have U:=Ō H y;rw[hsub] at U;obtain⟨ν1,v1,H1,ev1⟩:=aog I hl hln U;obtain⟨w',k1,k2,k3,k4⟩:=aeb H1 E ((Ō H x).ev ev1) v1;refine⟨ν1,w',undef,.inr ⟨?_,rfl⟩,trivial,k2,ev1.trans k3 (gY (á _ _ _).symm),k4.trans (á _ _ _),rfl⟩;simp[k1]
  ·rw[qD] at e;obtain⟨h',E,h2⟩:=iP e;cases h2;exact Zo (aeb I E (Ō H x) (Ō H y))
 |nilCheck x =>
  rw[A] at e;simp only[opR,opK] at e;have G:=Ō H x
  split at e<;>try (cases e; done)
  ·rename_i id off he;cases e;rw[he] at G;have T:=G;obtain⟨cs,b,E,h2,L⟩:=T;exact aha.still I (by unfold execOp; rw[A]; simp only[L]; rfl) (L▸G)
  ·rename_i t x' off he;cases e;rw[he] at G;have T:=G;obtain⟨b,o',us,L,V⟩:=T;exact aha.still I (by unfold execOp; rw[A]; simp only[L]; rfl) (L▸G)
  ·rename_i id g i off he
   split at e<;>try (cases e; done)
   rename_i t g' fz xs hl
   split at e<;>try (cases e; done)
   rename_i hgg;cases e;rw[he] at G;have T:=G;obtain⟨ho,t2,g2,fz2,xs2,hl2,hle,hf⟩:=T;rw[hl] at hl2; cases hl2;obtain⟨_,b,o',cap,_,L⟩:=hf (eq_of_beq hgg);exact aha.still I (by unfold execOp; rw[A]; simp only[L]; rfl) (L▸G)
 |binOp op t x y yt =>
  rw[A] at e;simp only[opR,opK] at e;rw[CG] at e;obtain⟨R,E,h2⟩:=iP e;cases h2
  have C:execOp a.eval o=(do let u <-(do eqGuard op t x y (a.eval x) (a.eval y); binOp op t (a.eval x) (a.eval y)); pure (.value u)):=by unfold execOp; rw[A]
  rw[C];exact(amt x y I E (Ō H x) (Ō H y)).step
 |unOp op t x =>
  rw[A] at e;simp only[opR,opK] at e
  have C:execOp a.eval o=(do let u <-Op.unary op (a.eval x); pure (.value u)):=by unfold execOp; rw[A]
  rw[C];have G:=Ō H x
  split at e<;>try (cases e; done)
  ·rename_i b he;cases e;rw[he] at G;exact(ahz (op:=.not) I G rfl).step
  ·rename_i k n he;rw[FY] at e;obtain⟨R,E,h2⟩:=iP e;cases h2;rw[he] at G;exact(ahz (op:=.neg) I G E).step
 |convert src dst x =>
  rw[A] at e;simp only[opR,opK] at e
  have C:execOp a.eval o=(do let u <-convert src dst (a.eval x); pure (.value u)):=by unfold execOp; rw[A]
  rw[C];have G:=Ō H x
  split at e<;>try (cases e; done)
  rename_i d k k' n Z hd he;cases e;rw[he] at G;have G:a.eval x=.int k' n:=G;refine(jr.still (v:=.int k (k.wrap n)) (u:=.int k (k.wrap n)) I ?_ rfl).step;rw[G];simp only[convert,Sem.run_bind,run_underlying Z,run_underlying hd,Result.andThen_ok];simp[Conv.intToInt]
 |makeFunc fn first caps =>
  rw[A] at e;simp only[opR,opK] at e
  split at e<;>try (cases e; done)
  rename_i N;simp only[dg,dM] at N;cases e
  have C:execOp a.eval o=(do let u <-Instr.makeFunc fn (first.map a.eval) (caps.map a.eval); pure (.value u)):=by unfold execOp; rw[A]
  rw[C];refine(jr.still (v:=.fn fn (first.toList.map (ev S.t)) (caps.toList.map (ev S.t))) (u:=.func fn (first.map a.eval) (caps.map a.eval)) I rfl ⟨_,_,rfl,?_,?_⟩).step
  ·rw[gu];exact Ĕ.of_map fun x C=>aiZ (N.1 _ (List.mem_map_of_mem C)) (Ō H x)
  ·rw[gu];exact Ĕ.of_map fun x C=>aiZ (N.2 _ (List.mem_map_of_mem C)) (Ō H x)
 |makeMap t r =>
  rw[A] at e;simp only[opR,opK] at e
  split at e<;>try (cases e; done)
  rename_i kt et K
  split at e<;>try (cases e; done)
  rename_i k R hk G
  split at e<;>try (cases e; done)
  cases e;obtain⟨E,h2⟩:=hn (by rw[A]; rfl)
  have C:execOp a.eval o=(do let u <-Instr.makeMap t none; pure (.value u)):=by unfold execOp; rw[A]; rfl
  rw[C];exact(agd k R I E h2).step
 |makeSlice t l c =>
  rw[A] at e;simp only[opR,opK] at e
  split at e<;>try (cases e; done)
  rename_i k n el hsame hl hel
  split at e<;>try (cases e; done)
  rename_i ty hty
  split at e<;>try (cases e; done)
  rename_i hrow
  split at e<;>try (cases e; done)
  rename_i zs W
  split at e<;>try (cases e; done)
  rename_i z hz
  split at e<;>try (cases e; done)
  rename_i hb;simp only[dg,decide_eq_true_eq,ã] at hb;cases e;obtain⟨E,h2⟩:=hn (by rw[A]; rfl);have G:=Ō H l;rw[hl] at G;have G:a.eval l=.int k n:=G
  have N:a.eval c=.int k n:=by rw[<-ahR (S:=S) hsame,G]
  have C:execOp a.eval o=(do let u <-Instr.makeSlice t (.int k n) (.int k n); pure (.value u)):=by unfold execOp; rw[A]; simp only[G,N]
  rw[C];exact(aay I E h2 hel hrow W hz hb.1 hb.2).step
 |slice t x lo hi mx =>
  rw[A] at e;simp only[opR,opK] at e
  split at e<;>try (cases e; done)
  rename_i el K
  split at e<;>try (cases e; done)
  rename_i sz Z;rw[BP] at e;obtain⟨⟨R,h'⟩,E,h2⟩:=iP e;cases h2
  have C:execOp a.eval o=(do let u <-Instr.sliceAt t (a.eval x) (lo.map a.eval) (hi.map a.eval) none; pure (.value u)):=by unfold execOp; rw[A]; rfl
  rw[C];refine(ak7 I K Z E (Ō H x) (fun y U=>?_) (fun U=>?_) (fun y U=>?_) (fun U=>?_)).step
  ·cases lo with
   |none=>cases U
   |some l=>cases U; exact⟨_,rfl,Ō H l⟩
  ·cases lo with
   |none=>rfl
   |some l=>cases U
  ·cases hi with
   |none=>cases U
   |some l=>cases U; exact⟨_,rfl,Ō H l⟩
  ·cases hi with
   |none=>rfl
   |some l=>cases U
 |fieldAddr t x f =>
  rw[A] at e;simp only[opR,opK] at e
  split at e<;>try (cases e; done)
  rename_i fs K
  split at e<;>try (cases e; done)
  rename_i fd hf
  split at e<;>try (cases e; done)
  rename_i n Z;rw[qF] at e;obtain⟨R,E,h2⟩:=iP e;cases h2
  have C:execOp a.eval o=(do let u <-Instr.fieldAt t (a.eval x) f; pure (.value u)):=by unfold execOp; rw[A]
  rw[C];exact(abC I K hf Z E (Ō H x)).step
 |field t x f =>
  rw[A] at e;simp only[opR,opK] at e;have G:=Ō H x
  split at e<;>try (cases e; done)
  rename_i fs cs K N
  split at e<;>try (cases e; done)
  rename_i fd hf
  split at e<;>try (cases e; done)
  rename_i agg n hl
  split at e<;>try (cases e; done)
  rename_i ds hg
  split at e<;>try (cases e; done)
  rename_i R hm;cases e;rw[N] at G
  have C:execOp a.eval o=(do let u <-Instr.field t (a.eval x) f; pure (.value u)):=by unfold execOp; rw[A]
  rw[C];exact(alT I K hf hl hg hm G).step
 |indexAddr t x i =>
  rw[A] at e;simp only[opR,opK] at e
  have C:execOp a.eval o=(do let u <-Instr.indexAt t (a.eval x) (a.eval i); pure (.value u)):=by unfold execOp; rw[A]
  rw[C]
  split at e<;>try (cases e; done)
  ·rename_i el K
   split at e<;>try (cases e; done)
   rename_i sz Z;rw[qM] at e;obtain⟨R,E,h2⟩:=iP e;cases h2;exact(alM I K Z E (Ō H x) (Ō H i)).step
  ·rename_i n el K;have G:=Ō H x;have hi:=Ō H i
   split at e<;>try (cases e; done)
   rename_i id off k j hx' hi'
   split at e<;>try (cases e; done)
   rename_i sz Z;rw[jl] at e;obtain⟨q,E,h2⟩:=iP e;obtain⟨rfl,_,hb⟩:=Jv E;cases h2;rw[hx'] at G;rw[hi'] at hi;have hi:a.eval i=.int k (q:Int):=hi;rw[hi];have:=(Q7 I K (j:=(q:Int)) (k:=k) ⟨by omega,by omega⟩ Z G).step;simpa using this
 |index t x i =>
  rw[A] at e;simp only[opR,opK] at e
  have C:execOp a.eval o=(do let u <-Instr.index t (a.eval x) (a.eval i); pure (.value u)):=by unfold execOp; rw[A]
  rw[C];have G:=Ō H x;have hi:=Ō H i
  split at e<;>try (cases e; done)
  rename_i n el cs k j K hx' hi';rw[jl] at e;obtain⟨q,E,h2⟩:=iP e;obtain⟨rfl,_,hb⟩:=Jv E
  split at h2<;>try (cases h2; done)
  rename_i agg m hl
  split at h2<;>try (cases h2; done)
  rename_i ds hg
  split at h2<;>try (cases h2; done)
  rename_i R hm;cases h2;rw[hx'] at G;rw[hi'] at hi;have hi:a.eval i=.int k (q:Int):=hi;rw[hi];exact(adg I K (j:=(q:Int)) (k:=k) ⟨by omega,by omega⟩ hl (by simpa using hg) hm G).step
 |lookup t m i ok =>
  rw[A] at e;simp only[opR,opK] at e;rw[nS] at e;obtain⟨R,E,h2⟩:=iP e;cases h2
  have C:execOp a.eval o=(do let u <-Instr.lookup t (a.eval m) (a.eval i) ok; pure (.value u)):=by unfold execOp; rw[A]
  rw[C];exact(aiG I E (Ō H m) (Ō H i)).step
 |mapUpdate t m i x =>
  rw[A] at e;simp only[opR,opK] at e;rw[oi] at e;obtain⟨h',E,h2⟩:=iP e;cases h2
  have C:execOp a.eval o=(do Instr.mapUpdate t (a.eval m) (a.eval i) (a.eval x); pure .skip):=by unfold execOp; rw[A]
  rw[C];exact Zo (aaw I E (Ō H m) (Ō H i) (Ō H x))
 |extract x i =>
  rw[A] at e;simp only[opR,opK] at e;have G:=Ō H x
  split at e<;>try (cases e; done)
  rename_i vs hvs
  split at e<;>try (cases e; done)
  rename_i R T;cases e;rw[hvs] at G;obtain⟨us,hu,h2⟩:=G;obtain⟨u,L,V⟩:=h2.get T;refine aha.still I (u:=u) (by unfold execOp; rw[A]; simp only[hu]; simp at L; simp[Instr.extract,L]) ?_
  cases K:v.isTup with
  |true =>
   cases v<;>try cases K
   exact V.elim
  |false=>rw[zc K]; exact V
 |call c =>
  obtain⟨f,args,tys⟩:=c;rw[A] at e
  cases f with
  |value f=>cases e
  |invoke r n=>cases e
  |builtin b =>
   simp only[opR,opK] at e
   split at e
   ·-- len
    rename_i x t rest B J;rw[B8] at e;obtain⟨R,E,h2⟩:=iP e;cases h2;rw[lR (S:=S) (f:=Builtin.len_) A (fun _ _=>rfl),arr1 B,show Array.map a.eval #[x]=#[a.eval x] by simp]
    have Y:tys[0]?=some t:=by rw[<-gI,J]; rfl
    exact(len_ok I E (Ō H x) Y).step
   ·rename_i s x t t' B J;obtain⟨E,h2⟩:=hn (by rw[A]; rfl);rw[lR (S:=S) (f:=Builtin.append_) A (fun _ _=>rfl),arr2 B,arr2 J,show Array.map a.eval #[s,x]=#[a.eval s,a.eval x] by simp]
    split at e
    ·rename_i htt;have htt:=eq_of_beq htt;subst htt;rw[yF] at e;obtain⟨⟨R,h'⟩,L,V⟩:=iP e;cases V;exact(akv I E h2 L (Ō H s) (Ō H x)).step
    ·split at e<;>try (cases e; done)
     rename_i hu;rw[BM] at e;obtain⟨⟨R,h'⟩,L,V⟩:=iP e;cases V;exact(akY I E h2 hu L (Ō H s) (Ō H x)).step
   ·rename_i x t B J
    split at e<;>try (cases e; done)
    rename_i d hd;rw[CB] at e;obtain⟨h',E,h2⟩:=iP e;cases h2;rw[lR (S:=S) (f:=Builtin.clear_) A (fun _ _=>rfl),arr1 B,show Array.map a.eval #[x]=#[a.eval x] by simp]
    have Y:tys[0]?=some t:=by rw[<-gI,J]; rfl
    exact(al4 Y I E (by rw[hd]; rfl) (Ō H x)).step
   ·rename_i x t rest B J
    split at e<;>try (cases e; done)
    rename_i el K C;cases e;have G:=Ō H x;rw[C] at G;have G:a.eval x=.slice none 0 0:=G;rw[lR (S:=S) (f:=Builtin.cap_) A (fun _ _=>rfl),arr1 B]
    have Y:tys[0]?=some t:=by rw[<-gI,J]; rfl
    exact(jr.still (v:=.int .i64 0) (u:=.int .i64 0) I (by simp[Builtin.cap_,Y,G,run_underlying K,goInt]) rfl).step
   ·rename_i x xs B;rw[ja] at e;obtain⟨R,E,h2⟩:=iP e;cases h2;rw[lR (S:=S) (f:=Builtin.min_) A (fun _ _=>rfl)];obtain⟨u,L,V⟩:=OC (P:=P) (f:=Builtin.min2) (gt:=false) (fun k p q=>alg k p q) (xs.map (ev S.t)) (xs.map a.eval) _ v (a.eval x) E (Ō H x) (Ĕ.of_map fun y _=>Ō H y);refine(jr.still I ?_ V).step;simp only[Builtin.min_,gu,B,fe];exact L
   ·rename_i x xs B;rw[ja] at e;obtain⟨R,E,h2⟩:=iP e;cases h2;rw[lR (S:=S) (f:=Builtin.max_) A (fun _ _=>rfl)];obtain⟨u,L,V⟩:=OC (P:=P) (f:=Builtin.max2) (gt:=true) (fun k p q=>alh k p q) (xs.map (ev S.t)) (xs.map a.eval) _ v (a.eval x) E (Ō H x) (Ĕ.of_map fun y _=>Ō H y);refine(jr.still I ?_ V).step;simp only[Builtin.max_,gu,B,fe];exact L
   ·cases e
 |_=>rw[A] at e; cases e
end
end Go.Am
end

noncomputable section
namespace Go.Am
variable [Ghost]
def ů (nid:Nat) (h h':BY Blk):Prop:=∀j,j≠nid->lkB h j=.dead->lkB h' j=.dead
def ů.refl (nid:Nat) (h:BY Blk):ů nid h h:=fun _ _ hd=>hd
def ů.upd {nid id:Nat} {h:BY Blk} (B:Blk) (b:id=nid\/lkB h id≠.dead):ů nid h (Ď h id B):=fun j c hd=>by
 rw[Ù]
 ·exact hd
 ·rintro rfl;rcases b with rfl|b
  ·exact c rfl
  ·exact b hd
def ů.trans {nid:Nat} {h h' b:BY Blk} (d:ů nid h h') (h2:ů nid h' b):ů nid h b:=fun j c hd=>h2 j c (d j c hd)
def ů.frz {nid:Nat} {h:BY Blk} (v:AV):ů nid h (frz h v):=fun _ _ hd=>ae1 hd
def ů.frzA {nid:Nat} {h:BY Blk} (ps:BY (Nat×AV)):ů nid h (frzA h ps):=fun _ _ hd=>Ra ps hd
def EJ {h:BY Blk} {id:Nat} {B:Blk} (b:lkB h id=B) (c:B≠.dead):lkB h id≠.dead:=by rw[b]; exact c
def an5 {v:AV} {id:Nat} {h:BY Blk} {k u:Ty} {es:BY (Val k×Val u)} (b:lkB h id=.map k u es):lkB (frz h v) id=.map k u es:=by
 unfold frz; split
 ·exact Yu _ b
 ·exact ae4 b
def Um {P:Program} {h h':BY Blk} {t:TypeId} {a v:AV} {nid:Nat} (b:yI P h t a v some=some h'):ů nid h h':=by
 unfold yI at b
 (repeat' split at b)<;>first
  |(cases b; done)
  |(cases b; exact ů.upd _ (.inr (EJ ‹lkB h _=.cells _› (by simp))))
  |(cases b; exact(ů.frz _).trans (ů.upd _ (.inr (EJ ‹lkB (frz h _) _=.row _ _ _ _› (by simp)))))
def aik {P:Program} {S d:St} {o:Op} {nid:Nat} {eat:Bool} {v:AV} (e:opR P S nid eat o=some (v,d)):ů nid S.h d.h:=by
 unfold opR opK at e;dsimp only at e
 (repeat' split at e)<;>first
  |(cases e; done)
  |(cases e; exact ů.refl _ _)
  |(cases e; exact ů.upd _ (.inl rfl))
  |(cases e; exact(ů.frzA _).trans (ů.upd _ (.inl rfl)))
  |(rw[wq] at e; obtain⟨c,b,h2⟩:=iP e; cases h2; exact ů.refl _ _)
  |(rw[CG] at e; obtain⟨c,b,h2⟩:=iP e; cases h2; exact ů.refl _ _)
  |(rw[FY] at e; obtain⟨c,b,h2⟩:=iP e; cases h2; exact ů.refl _ _)
  |(rw[qF] at e; obtain⟨c,b,h2⟩:=iP e; cases h2; exact ů.refl _ _)
  |(rw[qM] at e; obtain⟨c,b,h2⟩:=iP e; cases h2; exact ů.refl _ _)
  |(rw[nS] at e; obtain⟨c,b,h2⟩:=iP e; cases h2; exact ů.refl _ _)
  |(rw[B8] at e; obtain⟨c,b,h2⟩:=iP e; cases h2; exact ů.refl _ _)
  |(rw[ja] at e; obtain⟨c,b,h2⟩:=iP e; cases h2; exact ů.refl _ _)
  |(rw[qD] at e; obtain⟨h',b,h2⟩:=iP e; cases h2; exact Um b)
  | (rw [qD] at e; obtain ⟨h', b, h2⟩ := iP e; cases h2
     exact(ů.upd _ (.inr (EJ ‹lkB S.h _=.row _ _ _ _› (by simp)))).trans (Um b))
  | (rw [BP] at e; obtain ⟨⟨c, h'⟩, b, h2⟩ := iP e; cases h2
     unfold sM at b
     (repeat' split at b)<;>first
      |(cases b; done)
      |(cases b; exact ů.refl _ _)
      |(cases b; exact ů.upd _ (.inr (EJ ‹lkB S.h _=.row _ _ _ _› (by simp)))))
  | (rw [yF] at e; obtain ⟨⟨c, h'⟩, b, h2⟩ := iP e; cases h2
     unfold BH at b
     (repeat' split at b)<;>first
      |(cases b; done)
      |(cases b; exact ů.upd _ (.inl rfl))
      |(cases b; exact ů.upd _ (.inr (EJ ‹lkB S.h _=.row _ _ _ _› (by simp)))))
  | (rw [BM] at e; obtain ⟨⟨c, h'⟩, b, h2⟩ := iP e; cases h2
     unfold Lc at b
     (repeat' split at b)<;>first
      |(cases b; done)
      |(cases b; exact ů.upd _ (.inl rfl)))
  | (rw [CB] at e; obtain ⟨h', b, h2⟩ := iP e; cases h2
     unfold L3 at b
     (repeat' split at b)<;>first
      |(cases b; done)
      |(cases b; exact ů.refl _ _)
      |(cases b; exact ů.upd _ (.inr (EJ ‹lkB S.h _=.row _ _ _ _› (by simp)))))
  | (rw [jl] at e; obtain ⟨q, b, h2⟩ := iP e
     (repeat' split at h2)<;>first
      |(cases h2; done)
      |(cases h2; exact ů.refl _ _))
  | (rw [oi] at e; obtain ⟨h', b, h2⟩ := iP e; cases h2
     unfold mb at b
     (repeat' split at b)<;>first
      |(cases b; done)
      |(cases b; exact(ů.frz _).trans (ů.upd _ (.inr (EJ (an5 ‹lkB S.h _=.map _ _ _›) (by simp))))))
end Go.Am
end

noncomputable section
namespace Go.Am
variable [Ghost]
section
variable {ρ:Type} {ν ν':Nat->Value} {h h':BY Blk} {w w':World} {P:Program}
def Ev.same (d:∀id,lkB h' id=lkB h id) (c:w'.heap=w.heap) (j:w'.os=w.os) (h2:w'.tape=w.tape) (i:w'.output=w.output) (m:Nat):Ev m ν h w ν h' w' :=
 ⟨j,h2,i,by rw[c]; exact dh _,fun b _ hb=>⟨by rw[c],fun⟨id,f,e⟩=>hb ⟨id,by rwa [d] at f,e⟩⟩,fun id _=>by rw[d]; exact Blk.next_refl _ _ _⟩
def HR.same (H:HR ν h w) (c:∀id,lkB h' id=lkB h id) (d:w'.heap=w.heap) (l:w'.os=w.os) (h2:w'.tape=w.tape) (k:w'.output=w.output):HR ν h' w':=by
 refine⟨fun id=>?_,fun i j b e f=>H.inj i j b (by rwa [c] at e) (by rwa [c] at f),fun b hb=>by rw[d]; exact H.ghlt b hb,fun id b e=>H.ghne id b (by rwa [c] at e)⟩;rw[c];exact BR.ev (Ev.same c d l h2 k _) (fun b o hb _=>by rw[d]; exact hb) rfl (fun b _ _ _=>by rw[d]) (H.blk id)
def Sim.same {S:St} {a:Act} (H:Sim ν S a w) (d:∀id,lkB h' id=lkB S.h id) (c:w'.heap=w.heap) (f:w'.os=w.os) (h2:w'.tape=w.tape) (e:w'.output=w.output):Sim ν {t:=S.t,h:=h'} a w' :=
 ⟨H.defers.keep (by rw[c]; exact dh _) (fun b o hb _=>by rw[c]; exact hb),H.len,fun i=>(H.tmps i).ev (Ev.same d c f h2 e _),H.heap.same d c f h2 e⟩
def abh:∀(h:BY Blk) (d:Nat),h.length<=d->lkB h d=.dead
 |[],_,_=>rfl
 |x::xs,0,h=>by simp at h
 |x::xs,d+1,h=>by simpa[lkB] using abh xs d (by simpa using h)
def Yi:∀(h:BY Blk) (n id:Nat),lkB (h++List.replicate n .dead) id=lkB h id
 |[],0,_=>rfl
 |[],n+1,0=>rfl
 |[],n+1,id+1=>by simpa[gA,lkB] using Yi [] n id
 |x::xs,n,0=>rfl
 |x::xs,n,id+1=>by simpa[lkB] using Yi xs n id
abbrev fen:Fence:={Fence.wide with round:=Ghost.Q}
def afI (P:Program) (L:Nat) (call:BY Nat->Bool->Nat->BY AV->BY Blk->(AV->BY Blk->BE ρ)->BE ρ):Prop :=
 ∀path d g b h (K:AV->BY Blk->BE ρ) r,path.length=L->call path d g b h K=some r->∀ν w vals,HR ν h w->Ghost.B<=w.heap.size->Ĕ (VR ν h w) b vals ->
  (∃fn c,P.funcs[g]?=some fn/\fn.body=some c) /\
  CallsIn Fence.wide 0 P g vals.toArray w fun e w'=>∃ν' h' v u,e=.returned u/\VR ν' h' w' v u/\HR ν' h' w'/\Ev h.length ν h w ν' h' w'/\h.length<=h'.length/\(∀j,j<h.length->lkB h j=.dead->lkB h' j=.dead)/\K v h'=some r
def Lb (P:Program) (clone:Nat->Bool):Prop :=
 ∀g,clone g=true->∀fz S nid x v b,Bu P g fz S nid x (fun v S=>some (v,S))=some (v,b)->∀ν w u,HR ν S.h w->VR ν S.h w x u->nid<S.h.length->lkB S.h nid=.dead ->
  (∃fn c,P.funcs[g]?=some fn/\fn.body=some c) /\
  CallsIn Fence.wide 0 P g #[u] w fun e w'=>∃ν' u',e=.returned u'/\VR ν' b.h w' v u'/\HR ν' b.h w'/\Ev S.h.length ν S.h w ν' b.h w'/\S.h.length<=b.h.length/\ů nid S.h b.h/\b.t=S.t
def KX (P:Program) (g:Nat) (fz:Bool) (S:St) (nid:Nat) (x:AV) (K:AV->St->BE ρ):Bu P g fz S nid x K=(Bu P g fz S nid x fun v S=>some (v,S)).bind fun r=>K r.1 r.2:=by
 unfold Bu; (repeat' split)<;>rfl
def Aft (m:Nat) (ν:Nat->Value) (h:BY Blk) (w:World) (K:St->BE ρ) (r:ρ) (c:Act) (w':World):Prop :=
 ∃ν' b,Sim ν' b c w'/\Ev m ν h w ν' b.h w'/\h.length<=b.h.length/\K b=some r
def Aft.trans {m f:Nat} {K:St->BE ρ} {r:ρ} {i:Act} {ν b:Nat->Value} {h c:BY Blk} {w d w':World} (e:Ev m ν h w b c d) (k:h.length<=c.length) (j:m<=f) (ha:Aft f b c d K r i w'):Aft m ν h w K r i w':=by
 obtain⟨ν',q,p,h2,o,l⟩:=ha;exact⟨ν',q,p,e.trans h2 j,dE k o,l⟩
def op_nid {S:St} {o:Op} {nid nid':Nat} {eat:Bool} {clone:Nat->Bool} (d:Ė clone o=false):opR P S nid eat o=opR P S nid' eat o:=by
 cases o<;>try first|rfl|(cases d; done)
 rename_i c;obtain⟨f,e,tys⟩:=c
 cases f<;>try rfl
 rename_i b
 cases b<;>first|(cases d; done)|rfl|(unfold opR opK; dsimp only; (repeat' split)<;>first|rfl|simp_all)
def YldP (P:Program) (y:YFun):Prop:=∃f:y.ty=Ghost.T,∀(O X:Nat->Prop) (c:BY (Val Ghost.T)) (v:Val Ghost.T) (u:Value) (W:World),Ghost.J O X c W->(∀b,O b->X b)->(∀b,X b->b<W.heap.size)->(c++[v] <+: Bw (F:=fun t=>BY (Val t)) f y.all)->CR W X Ghost.T v [u]->Ghost.B<=W.heap.size ->
 YieldAt Fence.wide 0 P Ghost.L #[u] W fun e d=>e=.returned (.bool true)/\d.os=W.os/\d.tape=W.tape/\d.output=W.output/\W.heap.size<=d.heap.size /\
  ∃us,(∀b,b<W.heap.size->¬O b->d.heap[b]?=W.heap[b]?/\¬Ŗ (.agg us) b)/\(∀b,Ŗ (.agg us) b->∃o,d.heap[b]?=some o/\US o=true)/\Ghost.J (Ŗ (.agg us)) (fun b=>(X b/\¬O b)\/Ŗ (.agg us) b) (c++[v]) d
def lz (E:Env ρ):Prop:=∀y,E.yld=some y->YldP E.P y
def jC {E:Env ρ} (h:E.yld=none):lz E:=fun y e=>by rw[h] at e; cases e
def ann {α:Type} {all l:BY α} {k:BE ρ} {r:ρ} (h:yg all l k=some r):l <+: all/\k=some r:=by
 unfold yg at h
 split at h
 ·exact⟨‹_›,h⟩
 ·cases h
def afL {t:Ty} (b:t.isAgg=false) {a:AV} {v:Val t} (e:Û t [a]=some v):a.isAgg=false/\a.isTup=false:=by
 cases t<;>first|(cases b; done)|(cases a<;>first|exact⟨rfl,rfl⟩|cases e)
def acn (h:BY Blk) {a:AV} (e:(ā h a).isAgg=false/\(ā h a).isTup=false):a.isAgg=false/\a.isTup=false:=by
 cases a<;>first|exact⟨rfl,rfl⟩|exact e
def ahm {E:Env ρ} (hy:lz E) {x:AV} {u:Value} {K:AV->BY Blk->BE ρ} {r:ρ} (H:HR ν h w) (hv:VR ν h w x u) (hB:Ghost.B<=w.heap.size) (e:yldK E h x K=some r) :
 YieldAt Fence.wide 0 E.P Ghost.L #[u] w fun e w'=>e=.returned (.bool true)/\∃ν' h',HR ν' h' w'/\Ev h.length ν h w ν' h' w'/\h'.length=h.length/\(∀j,lkB h j=.dead->lkB h' j=.dead)/\K (.bool true) h'=some r:=by
 unfold yldK at e
 split at e<;>try (cases e; done)
 rename_i y hE
 split at e<;>try (cases e; done)
 rename_i W
 split at e<;>try (cases e; done)
 rename_i N
 split at e<;>try (cases e; done)
 rename_i v l
 split at e<;>try (cases e; done)
 rename_i t xs f
 split at e<;>try (cases e; done)
 rename_i he hq;clear hq;obtain⟨ty,all⟩:=y;obtain⟨hT,hY⟩:=hy _ hE;have S:t=ty:=he;subst S;have Y:t=Ghost.T:=hT;subst Y;obtain⟨p,hk⟩:=ann e;obtain⟨I,G⟩:=acn h (afL W l);have J:=hv.one I G;obtain⟨Z,k,_⟩:=Rc H x;have U:CR w (Av ν (sm h x)) Ghost.T v [u]:=Ģ l ⟨Rb H J N,trivial⟩;have hb:=k.blk 0;rw[f] at hb;obtain⟨us0,h1,h2,h3,h4⟩:=hb;obtain⟨fn,tmps,assign,C,m,hR⟩:=hY _ _ xs v u w h4 (fun b hb=>.inl ⟨0,by rw[f]; rfl,hb⟩) (fun b hb=>k.ltA hb) p U hB;refine⟨fn,tmps,assign,C,m,hR.mono fun e' w' hw=>?_⟩;obtain⟨rfl,o1,o2,o3,o4,us,o5,o6,o7⟩:=hw;refine⟨rfl,?_⟩
 have c:(lkB (sm h x) 0).live=true:=by rw[f]; rfl
 have z:0<(sm h x).length:=kO f (by simp);have d:∀b,b<w.heap.size->((lkB (sm h x) 0).live=true->¬Ŗ (ν 0) b)->w'.heap[b]?=w.heap[b]?:=fun b hb s=>(o5 b hb (s c)).1
 have hV:(Blk.acc Ghost.T (xs++[v])).live=true->∀b,Ŗ (.agg us) b->((lkB (sm h x) 0).live=true/\Ŗ (ν 0) b)\/w.heap.size<=b:=fun _ b hb=>by
  rcases dv b w.heap.size with O|R
  ·by_cases ho:Ŗ (ν 0) b
   ·exact .inl ⟨c,ho⟩
   ·exact absurd hb (o5 b O ho).2
  ·exact .inr R
 have A:=Ev.upd k (B:=.acc Ghost.T (xs++[v])) (V:=.agg us) z o1 o2 o3 o4 d hV (by rw[f]; exact⟨_,rfl⟩)
 have H2:HR (č ν 0 (.agg us)) (Ď (sm h x) 0 (.acc Ghost.T (xs++[v]))) w':=by
  refine HR.upd k z A d hV ⟨us,Ý _ _ _,?_,rfl,?_⟩
  ·rw[Ý]; exact o6
  ·rw[Ý];refine Ghost.st _ _ _ _ _ _ o7 ⟨rfl,rfl,rfl,dh _,fun b _ s=>?_,fun b o hb _ _=>hb,fun b o hb _ _=>hb⟩;rintro(⟨i,hi,hb⟩|hg)
   ·by_cases h0:i=0
    ·subst h0; rw[Ý] at hb; exact s (.inr hb)
    ·rw[Ù _ h0] at hi;rw[Ļ _ _ h0] at hb;exact s (.inl ⟨.inl ⟨i,hi,hb⟩,fun q=>h0 (k.inj i 0 b hi c hb q)⟩)
   ·exact s (.inl ⟨.inr hg,fun q=>k.ghne 0 b c q hg⟩)
 refine⟨_,_,H2,Z.trans A (by rw[nY]; exact dh _),by rw[á,nY],fun j hj=>?_,hk⟩;have hd:lkB (sm h x) j=.dead:=Re hj;rw[Ù _ (fun q=>by rw[q,f] at hd; cases hd)];exact hd
def acs {E : Env ρ} {call : BY Nat -> Bool -> Nat -> BY AV -> BY Blk -> (AV -> BY Blk -> BE ρ) -> BE ρ} {L : Nat} (J : afI E.P L call) (hP : ∀ (f : Nat) (fn : Func), E.P.funcs[f]? = some fn -> (fn.name == "runtime.NumGoroutine") = false)
 (B:Lb E.P E.clone) (R:lz E)
 {fid:Nat} {path:BY Nat} {y:Bool} {S:St} {a:Act} {nid:Nat} {o:Oper} {K:AV->St->BE ρ} {r:ρ} (hp:path.length=L) (H:Sim ν S a w) (hn:Ė E.clone o.op=true->nid<S.h.length/\lkB S.h nid=.dead)
 (e:iA E call fid path y S nid o K=some r) {next:Act->World->Prop} {Q:Exit->Act->World->Prop}
 (hk:∀(ν':Nat->Value) (w':World) (u:Value) (v:AV) (i:St),VR ν' i.h w' v u->HR ν' i.h w'->Ev S.h.length ν S.h w ν' i.h w'->S.h.length<=i.h.length->(∀j,j<S.h.length->j≠nid\/Ė E.clone o.op=false->lkB S.h j=.dead->lkB i.h j=.dead)->i.t=S.t->K v i=some r->next (a.put o.dst u) w') :
 o.wpIn fen 0 E.P a w next Q:=by
 refine⟨fun _ _=>trivial,?_⟩
 have hnd:∀c,o.op≠.defer c:=by
  intro c O;unfold iA at e
  split at e<;>try (cases e; done)
  split at e
  ·rename_i d;rw[O] at d; cases d
  ·rw[O] at e;cases e
 rw[Oper.semAt_eq _ _ _ hnd]
 have plain:∀v i,opR E.P S nid (Ua E y fid o) o.op=some (v,i)->K v i=some r->o.uponIn fen 0 E.P a next Q ((execOp a.eval o).run E.P w):=by
  intro v i z h2;obtain⟨ν',w',u,N,h4,h5,h6,h7,h8⟩:=alr (clone:=E.clone) H hn z
  have:=hk ν' w' u v i h4 h5 h6 (gY h7.symm) (fun j _ C hd=>by
   rcases C with C|hal
   ·exact aik z j C hd
   ·rw[op_nid (nid':=j+1) hal] at z
    exact aik z j (by omega) hd) h8 h2
  rcases N with N|⟨N,rfl⟩
  ·rw[N]; exact this
  ·rw[N]; exact this
 unfold iA at e
 split at e<;>try (cases e; done)
 split at e
 ·rename_i f p tys d
  split at e<;>try (cases e; done)
  rotate_left
  ·rename_i m
   split at e<;>try (cases e; done)
   rename_i x b
   have G:a.eval f=.func (.yield Ghost.L) #[] #[]:=by
    have:=Ō H f;rw[m] at this;exact this
   obtain⟨fn,tmps,assign,body,V,hR⟩:=ahm R H.heap (Ō H x) H.defers.bnd e
   have T:(execOp a.eval o).run E.P w=.ok (.round Ghost.L fn tmps assign body) w:=by
    rw[<-V];unfold execOp;rw[d,arr1 b];simp[resolve,G,Deferred.ofValue,invoke,Sem.run_bind,Result.andThen_ok,callFunc,run_program]
   rw[T,Oper.uponIn_round];refine⟨fun m=>(by cases m),RoundIn.mono (show RoundIn fen 0 E.P _ _ _ _ _ _ _ from hR) fun e' w' U=>?_⟩;obtain⟨rfl,ν',h',g1,g2,g3,g4,g5⟩:=U;exact hk ν' w' (.bool true) (.bool true) {t:=S.t,h:=h'} rfl g1 g2 (gY g3.symm) (fun j _ _ hd=>g4 j hd) rfl g5
  rename_i g first Z m;have Y:=Ō H f;rw[m] at Y;obtain⟨fs,cs,G,A,I⟩:=Y
  split at e
  ·rename_i k
   split at e<;>try (cases e; done)
   rename_i x b;rw[KX] at e;obtain⟨⟨v,i⟩,z,h2⟩:=iP e;simp only[dg] at k;obtain⟨k,W⟩:=k
   have hfg:f=.func g:=by
    cases f<;>try (cases W; done)
    simp only[ev] at m
    injection m with q1
    injection q1 with q1
    rw[q1]
   subst hfg;obtain⟨hn1,hn2⟩:=hn (by rw[d]; exact k);obtain⟨⟨fn,c,s,l⟩,O⟩:=B g k _ S nid _ v i z ν w _ H.heap (Ō H x) hn1 hn2
   have T:(execOp a.eval o).run E.P w=.ok (.enter g #[a.eval x]) w:=by
    unfold execOp;rw[d,arr1 b];simp only[resolve,Act.eval,Deferred.ofValue,pure_bind,invoke,callFunc,Sem.run_bind,run_program,Result.andThen_ok,s,hP g fn s,l];simp only[Bool.false_eq_true,if_false,Option.isNone_some];show Result.ok (Next.enter g _) w=_;congr 2;apply Array.ext'
    cases x<;>simp[Act.eval]
   rw[T,Oper.uponIn_enter];refine⟨fun m=>(by cases m),O.mono fun e' w' U=>?_⟩;obtain⟨ν',u',rfl,g1,g2,g3,g4,g6,g5⟩:=U;exact hk ν' w' u' v i g1 g2 g3 g4 (fun j _ C hd=>g6 j (C.resolve_right (by rw[d]; exact fun m=>by rw[show Ė E.clone (.call ⟨.value (.func g),p,tys⟩)=E.clone g from rfl,k] at m; cases m)) hd) g5 h2
  ·rename_i k
   have b:Ĕ (VR ν S.h w) (first++(p.toList.map (ev S.t)++Z)) (fs.toList++(p.toList.map a.eval++cs.toList)) :=
    (A.mono fun _ _ q=>q.up.up).append ((Ĕ.of_map fun x _=>Ō H x).append (I.mono fun _ _ q=>q.up.up))
   obtain⟨⟨fn,c,s,l⟩,O⟩:=J path y g _ _ _ r hp e ν w _ H.heap H.defers.bnd b
   have T:(execOp a.eval o).run E.P w=.ok (.enter g (fs.toList++(p.toList.map a.eval++cs.toList)).toArray) w:=by
    unfold execOp;rw[d];simp only[resolve,G,Deferred.ofValue,pure_bind,invoke,callFunc,Sem.run_bind,run_program,Result.andThen_ok,s,hP g fn s,l];simp only[Bool.false_eq_true,if_false,Option.isNone_some];show Result.ok (Next.enter g _) w=_;congr 2;apply Array.ext';simp
   rw[T,Oper.uponIn_enter];refine⟨fun m=>(by cases m),O.mono fun e' w' U=>?_⟩;obtain⟨ν',h',v,u,rfl,z,h2,N,h4,h6,h5⟩:=U;exact hk ν' w' u v {t:=S.t,h:=h'} z h2 N h4 (fun j C _ hd=>h6 j C hd) rfl h5
 ·rename_i op hne;rw[Wx] at e;obtain⟨⟨v,i⟩,z,h2⟩:=iP e;exact plain v i z h2
def F5:∀(t:BY AV) (d:Nat),upd t d (lk t d)=t
 |[],_=>rfl
 |_::_,0=>rfl
 |x::t,d+1=>by simp[upd,lk,F5 t d]
def amG (n nid:Nat) (h:BY Blk):Prop:=∀j,nid<=j->j<nid+n->j<h.length/\lkB h j=.dead
def oE {clone:Nat->Bool} {o:Oper} {os:BY Oper}:i9 clone (o::os)=bif Ė clone o.op then i9 clone os+1 else i9 clone os:=rfl
def Vx {all:BY Oper} {o:Oper} {j:Nat} {b:Bool}:∀{l:BY Oper},uu all l=true->o∈l->o.guard=some (j,b)->∃p d,all[j]?=some p/\p.dst=some d
 |[],_,c,_=>by cases c
 |x::l,f,c,i=>by
  simp only[uu,dg] at f;rcases dm.1 c with rfl|c
  ·have e:=f.1;rw[i] at e;simp only at e
   split at e
   ·rename_i p k;obtain⟨d,hd⟩:=g9.1 e;exact⟨p,d,k,hd⟩
   ·cases e
  ·exact Vx f.2 c i
def afJ {c:Array Oper} {tmps:Array Value} {j d:Nat} {p:Oper} (i:c.toList[j]?=some p) (hd:p.dst=some d) :
 (∀b,tmps.getD d undef=.bool b->yielded c tmps j=some b)/\(tmps.getD d undef=undef->yielded c tmps j=none):=by
 have e:c[j]?=some p:=by simpa using i
 constructor
 ·intro b hb;unfold yielded;rw[e];simp only[Option.bind_some,hd]
  cases f:tmps[d]? with
  |none=>simp[eM,f,undef] at hb
  |some v=>simp[eM,f] at hb; subst hb; rfl
 ·intro hb;unfold yielded;rw[e];simp only[Option.bind_some,hd]
  cases f:tmps[d]? with
  |none=>rfl
  |some v=>simp[eM,f] at hb; subst hb; rfl
def qT (E:Env ρ) (call:BY Nat->Bool->Nat->BY AV->BY Blk->(AV->BY Blk->BE ρ)->BE ρ) (fid:Nat) (path:BY Nat) (c:Bool) (all:BY Oper) (i nid:Nat) (o:Oper) (S:St) (K:St->BE ρ):BE ρ :=
 match o.guard with
 |none=>iA E call fid (path++[i]) c S nid o fun v S=>K {t:=Ā S.t o.dst v,h:=S.h}
 |some (j,want)=>match lk S.t (qr all j) with
  |.bool b=>match b==want with
   |true=>iA E call fid (path++[i]) c S nid o fun v S=>K {t:=Ā S.t o.dst v,h:=S.h}
   |false=>K {t:=Ā S.t o.dst .und,h:=S.h}
  |.und=>K {t:=Ā S.t o.dst .und,h:=S.h}
  |_=>none
def aig {E:Env ρ} {call:BY Nat->Bool->Nat->BY AV->BY Blk->(AV->BY Blk->BE ρ)->BE ρ} {fid:Nat} {path:BY Nat} {c:Bool} {all:BY Oper} {o:Oper} {os:BY Oper} {i nid:Nat} {S:St} {K:St->BE ρ} :
 af5 E call fid path c all (o::os) i nid S K=qT E call fid path c all i nid o S fun m=>af5 E call fid path c all os (i+1) (bif Ė E.clone o.op then nid+1 else nid) m K:=by
 simp only[af5,qT]
 have f:∀d b,lk S.t d=.bool b->({t:=upd S.t d (.bool b),h:=S.h}:St)=S:=fun d b hb=>by rw[<-hb,F5]
 have e:∀d b,lk S.t d=.bool b->upd S.t d (.bool b)=S.t:=fun d b hb=>by rw[<-hb,F5]
 cases o.guard with
 |none=>rfl
 |some g =>
  obtain⟨j,k⟩:=g;simp only
  cases hb:lk S.t (qr all j)<;>try rfl
  rename_i b;have l:=f _ b hb;have h2:=e _ b hb
  cases b<;>cases k<;>simp only[l,h2]<;>rfl
def NW {E : Env ρ} {call : BY Nat -> Bool -> Nat -> BY AV -> BY Blk -> (AV -> BY Blk -> BE ρ) -> BE ρ} {L : Nat} (z : afI E.P L call) (Z : ∀ (f : Nat) (fn : Func), E.P.funcs[f]? = some fn -> (fn.name == "runtime.NumGoroutine") = false)
 (m:Lb E.P E.clone) (B:lz E) {fid:Nat} {path:BY Nat} {q:Bool} {c:Array Oper} (Y:uu c.toList c.toList=true)
 {S:St} {a:Act} {nid i:Nat} {o:Oper} {K:St->BE ρ} {r:ρ} (J:path.length+1=L) (U:c[i]?=some o) (H:Sim ν S a w) (W:Ė E.clone o.op=true->nid<S.h.length/\lkB S.h nid=.dead)
 (e:qT E call fid path q c.toList i nid o S K=some r) {next:Act->World->Prop} {Q:Exit->Act->World->Prop}
 (V:∀(ν':Nat->Value) (w':World) (u:Value) (v:AV) (s:St),VR ν' s.h w' v u->HR ν' s.h w'->Ev S.h.length ν S.h w ν' s.h w'->S.h.length<=s.h.length->(∀j,j<S.h.length->j≠nid\/Ė E.clone o.op=false->lkB S.h j=.dead->lkB s.h j=.dead)->s.t=S.t ->
  K {t:=Ā s.t o.dst v,h:=s.h}=some r->next (a.put o.dst u) w') :
 wpOpIn fen 0 E.P c Q i next a w:=by
 have A:iA E call fid (path++[i]) q S nid o (fun v S=>K {t:=Ā S.t o.dst v,h:=S.h})=some r ->
  o.wpIn fen 0 E.P a w next Q:=fun R=>acs z Z m B (by simpa using J) H W R V
 -- it is left out
 have skip:K {t:=Ā S.t o.dst .und,h:=S.h}=some r->next (a.put o.dst undef) w :=
  fun R=>V ν w undef .und S rfl H.heap (Ev.refl _ _ _ _) (dh _) (fun _ _ _ hd=>hd) rfl R
 have G:o∈c.toList:=by
  have:c.toList[i]?=some o:=by simpa using U
  exact dk this
 unfold wpOpIn;rw[U];simp only[qT] at e
 split at e
 ·rename_i k
  have x:Region.wanted o (yielded c a.tmps)=true:=by simp[Region.wanted,k]
  simp only[x,if_true];exact A e
 ·rename_i j T k;obtain⟨p,d,J,hd⟩:=Vx Y G k;obtain⟨O,N⟩:=afJ (tmps:=a.tmps) J hd
  have y:qr c.toList j=d:=by simp[qr,J,hd]
  rw[y] at e;have I:=H.tmps d
  split at e
  ·rename_i b hb;rw[hb] at I;have C:=O b I
   split at e
   ·rename_i l
    have x:Region.wanted o (yielded c a.tmps)=true:=by
     simp only[beq_iff_eq] at l;simp[Region.wanted,k,C,l]
    simp only[x,if_true];exact A e
   ·rename_i l
    have x:Region.wanted o (yielded c a.tmps)=false:=by
     simp only[beq_eq_false_iff_ne] at l;simpa[Region.wanted,k,C] using l
    simp only[x,dA,if_false];exact⟨fun _ _=>trivial,skip e⟩
  ·rename_i hb;rw[hb] at I
   have x:Region.wanted o (yielded c a.tmps)=false:=by simp[Region.wanted,k,N I]
   simp only[x,dA,if_false];exact⟨fun _ _=>trivial,skip e⟩
  ·cases e
def aif {E : Env ρ} {call : BY Nat -> Bool -> Nat -> BY AV -> BY Blk -> (AV -> BY Blk -> BE ρ) -> BE ρ} {L : Nat} (p : afI E.P L call) (N : ∀ (f : Nat) (fn : Func), E.P.funcs[f]? = some fn -> (fn.name == "runtime.NumGoroutine") = false)
 (k:Lb E.P E.clone) (q:lz E) {fid:Nat} {path:BY Nat} {l:Bool} {c:Array Oper} (J:uu c.toList c.toList=true)
 {S:St} {a:Act} {nid i:Nat} {o:Oper} {os:BY Oper} {K:St->BE ρ} {r:ρ} (A:path.length+1=L) (B:c[i]?=some o) (H:Sim ν S a w) (y:amG (i9 E.clone (o::os)) nid S.h)
 (e:af5 E call fid path l c.toList (o::os) i nid S K=some r) {next:Act->World->Prop} {Q:Exit->Act->World->Prop}
 (G:∀(ν':Nat->Value) (w':World) (u:Value) (v:AV) (d:St),VR ν' d.h w' v u->HR ν' d.h w'->Ev S.h.length ν S.h w ν' d.h w'->S.h.length<=d.h.length->amG (i9 E.clone os) (bif Ė E.clone o.op then nid+1 else nid) d.h->(∀j,j<S.h.length->j<nid->lkB S.h j=.dead->lkB d.h j=.dead)->d.t=S.t ->
  af5 E call fid path l c.toList os (i+1) (bif Ė E.clone o.op then nid+1 else nid) {t:=Ā d.t o.dst v,h:=d.h} K=some r->next (a.put o.dst u) w') :
 wpOpIn fen 0 E.P c Q i next a w:=by
 have x:Ė E.clone o.op=true->nid<S.h.length/\lkB S.h nid=.dead:=fun b=>y nid (dh _) (by rw[oE,b]; simp)
 have m:amG (i9 E.clone os) (bif Ė E.clone o.op then nid+1 else nid) S.h:=fun j s h2=>by
  cases b:Ė E.clone o.op with
  |true=>rw[b] at s h2; exact y j (by simp at s; omega) (by rw[oE,b]; simp at h2 ⊢; omega)
  |false=>rw[b] at s h2; exact y j (by simpa using s) (by rw[oE,b]; simpa using h2)
 rw[aig] at e;refine NW p N k q J A B H x e fun ν' w' u v d g1 Z Y W z V U=>G ν' w' u v d g1 Z Y W (fun j h2 T=>?_) (fun j I C hd=>z j I (.inl (by omega)) hd) V U;obtain⟨R,O⟩:=m j h2 T;refine⟨by omega,z j R ?_ O⟩
 cases b:Ė E.clone o.op with
 |true=>left; rw[b] at h2; simp at h2; omega
 |false=>exact .inr rfl
end
end Go.Am
end

noncomputable section
namespace Go.Am
variable [Ghost]
section
variable {ρ:Type} {ν ν':Nat->Value} {h h':BY Blk} {w w':World} {P:Program}
def Dd (m:Nat) (h h':BY Blk):Prop:=∀j,j<m->lkB h j=.dead->lkB h' j=.dead
def Dd.refl (m:Nat) (h:BY Blk):Dd m h h:=fun _ _ hd=>hd
def Dd.trans {m c:Nat} {h h' b:BY Blk} (f:Dd m h h') (h2:Dd c h' b) (e:m<=c):Dd m h b:=fun j d hd=>h2 j (dC d e) (f j d hd)
def adW (m:Nat) (ν:Nat->Value) (h:BY Blk) (w:World) (K:Exit->St->BE ρ) (r:ρ) (e:Exit) (c:Act) (w':World):Prop :=
 ∃ν' b,Sim ν' b c w'/\Ev m ν h w ν' b.h w'/\m<=b.h.length/\Dd m h b.h/\K e b=some r
def adW.trans {m i:Nat} {K:Exit->St->BE ρ} {r:ρ} {e:Exit} {j:Act} {b:Nat->Value} {c:BY Blk} {d:World} (ev:Ev m ν h w b c d) (hd:Dd m h c) (f:m<=i) (ha:adW i b c d K r e j w'):adW m ν h w K r e j w':=by
 obtain⟨ν',q,p,h2,o,l,k⟩:=ha;exact⟨ν',q,p,ev.trans h2 f,dE f o,hd.trans l f,k⟩
def akM (E:Env ρ) (call:BY Nat->Bool->Nat->BY AV->BY Blk->(AV->BY Blk->BE ρ)->BE ρ):Prop :=
 (∀path c g b h K,call path c g b h K=none) \/
 ((∀ f p, E.pure f = some p -> ∀ path c b h K, call path c f b h K = We (c && !E.fz f) p h b K) /\
  (∀f,E.pure f=none->E.sort f=true->∀path c b h K,call path c f b h K=match b with|[x]=>VY h x K|_=>none) /\
  (∀f,E.pure f=none->E.sort f=false->E.compact f=true->∀path c b h K,call path c f b h K=match b with|[x]=>qy h x K|_=>none))
def NormOk (m:Nat) (N:St->BE St):Prop:=∀(S b:St) (ν:Nat->Value) (a:Act) (w:World),N S=some b->Sim ν S a w->m<=S.h.length->∃ν',Sim ν' b a w/\Ev m ν S.h w ν' b.h w/\m<=b.h.length/\Dd m S.h b.h
def afF (E:Env ρ):Prop:=∀path fid rid m J,E.joins path fid rid m=some J->∃N,NormOk m N/\∀b rest,J b rest=b (fun S=>match N S with|some c=>rest c|none=>none)
def Œ {E:Env ρ} (h:E.joins=fun _ _ _ _=>none):afF E:=by
 intro path fid rid m J e;rw[h] at e;cases e
structure nh (E:Env ρ) (L:Nat) (call:BY Nat->Bool->Nat->BY AV->BY Blk->(AV->BY Blk->BE ρ)->BE ρ):Prop where
 pureEq:akM E call
 call:afI E.P L call
 plain : ∀ (f : Nat) (fn : Func), E.P.funcs[f]? = some fn -> (fn.name == "runtime.NumGoroutine") = false
 clone:Lb E.P E.clone
 joins:afF E
 yld:lz E
def aaj {E:Env ρ} {call:BY Nat->Bool->Nat->BY AV->BY Blk->(AV->BY Blk->BE ρ)->BE ρ} {L:Nat} (l:nh E L call) {fid:Nat} {path:BY Nat} {p:Bool} {b:Array Oper} (B:path.length+1=L) (G:uu b.toList b.toList=true)
 {K:St->BE ρ} {r:ρ} {Q:Exit->Act->World->Prop} {m:Nat}:∀(os:BY Oper) (i nid:Nat) (S:St) (a:Act) (ν:Nat->Value) (w:World),(∀k,os[k]?=b[i+k]?)->Sim ν S a w->amG (i9 E.clone os) nid S.h->m<=nid->m<=S.h.length ->
  af5 E call fid path p b.toList os i nid S K=some r ->
  (∀ν' c J w',Sim ν' c J w'->Ev m ν S.h w ν' c.h w'->m<=c.h.length->Dd m S.h c.h->K c=some r->Q .normal J w') ->
  wpOpsIn fen 0 E.P b Q (List.range' i os.length) a w
 |[],i,nid,S,a,ν,w,_,H,_,_,x,e,y=>y ν S a w H (Ev.refl _ _ _ _) x (Dd.refl _ _) e
 |o::os,i,nid,S,a,ν,w,C,H,N,O,x,e,y=>by
  rw[dr,List.range'_succ,wpOpsIn_cons]
  have s:b[i]?=some o:=by have:=C 0; simpa using this.symm
  refine aif l.call l.plain l.clone l.yld G B s H N e fun ν' w' u v c Y h2 I h4 W T V U=>?_;have f:=H.put I h2 o.dst Y
  refine aaj l B G os (i+1) _ {t:=Ā c.t o.dst v,h:=c.h} _ ν' w' (fun k=>by have:=C (k+1); rw[show i+1+k=i+(k+1) by omega]; simpa using this) (by rw[V]; exact f) W (by cases Ė E.clone o.op<;>simp<;>omega) (by simp; omega) U
   fun d A z q g1 g2 g3 g4 Z=>y d A z q g1 ((I.mono x).trans g2 (dh _)) g3 (fun j R hd=>g4 j R (T j (by omega) (by omega) hd)) Z
def acw {E:Env ρ} {call:BY Nat->Bool->Nat->BY AV->BY Blk->(AV->BY Blk->BE ρ)->BE ρ} {L:Nat} (p:nh E L call) {fid rid:Nat} {path:BY Nat} {c:Array Oper} {S:St} {a:Act} {K:Exit->St->BE ρ} {r:ρ} {m:Nat} (i:path.length+1=L)
 (e:N7 E call fid path false c.toList S (K .normal)=some r) (H:Sim ν S a w) (l:m<=S.h.length):(Code.region rid c false).wpIn fen 0 E.P (adW m ν S.h w K r) a w:=by
 unfold N7 at e
 split at e<;>try (cases e; done)
 rename_i f;simp only[Bool.false_and,Bool.false_or,ft] at f;apply wpIn_region;have b:=fun id=>Yi S.h (i9 E.clone c.toList) id;have A:Sim ν {t:=S.t,h:=S.h++List.replicate (i9 E.clone c.toList) .dead} a w:=H.same b rfl rfl rfl rfl;have d:Ev m ν S.h w ν (S.h++List.replicate (i9 E.clone c.toList) .dead) w:=Ev.same b rfl rfl rfl rfl m
 have:=aaj (m:=m) (Q:=adW m ν S.h w K r) p i f c.toList 0 S.h.length _ a ν w (fun k=>by simp) A (fun j q h2=>⟨by simp; omega,by simp only[b]; exact abh _ _ q⟩) l (by simp; omega) e
  (fun ν' z B w' y x v u s=>⟨ν',z,y,d.trans x (dh _),v,fun j o hd=>u j o (by simp only[b]; exact hd),s⟩)
 rw[List.range_eq_range'];simpa using this
def wP (E:Env ρ) (L:Nat) (call:BY Nat->Bool->Nat->BY AV->BY Blk->(AV->BY Blk->BE ρ)->BE ρ):Prop :=
 ∀(fid rid:Nat) (path:BY Nat) (b:Array Oper) (S:St) (a:Act) (K:Exit->St->BE ρ) (r:ρ) (m:Nat) (ν:Nat->Value) (w:World),path.length+1=L ->
  N7 E call fid path true b.toList S (K .normal)=some r->Sim ν S a w->m<=S.h.length->(Code.region rid b true).wpIn fen 0 E.P (adW m ν S.h w K r) a w
def drawn:Code->Bool
 |.region _ _ d=>d
 |.seq a b=>drawn a||drawn b
 |.cond _ a b=>drawn a||drawn b
 |.block _ b=>drawn b
 |.scope b=>drawn b
 |_=>false
def noGoto (Q:Exit->Act->World->Prop):Exit->Act->World->Prop
 |.goto _,_,_=>False
 |e,a,w=>Q e a w
section
variable {F:Fence} {n:Nat} {P:Program} {Q:Exit->Act->World->Prop} {a:Act} {w:World}
def nt {b:Frame} {k:BY Item} {cs:BY Frame} {c:Code}:step P (lone (b.atR a (.code (.scope c)::k)) cs w)=.next (lone (b.atR a (.code c::.inScope c::k)) cs w) :=
 step_lone_go (by simp[stepG,stepG.exec,Frame.atR])
def VX {b:Frame} {k:BY Item} {cs:BY Frame} {c:Code}:step P (lone (b.atR a (.inScope c::k)) cs w)=.next (lone (b.atR a k) cs w) :=
 step_lone_go (by simp[stepG,stepG.exec,Frame.atR])
def afK {c:Code} (h:c.wpIn F n P (noGoto Q) a w):(Code.scope c).wpIn F n P Q a w:=by
 intro b k cs m hb p;have h0:(lone (b.atR a (.code (.scope c)::k)) cs w).fenced P F:=fenced_calm hb p rfl;obtain⟨e,i,f,j,d⟩:=h b (.inScope c::k) cs m hb p
 cases e with
 |normal=>exact⟨.normal,i,f,j,.head h0 nt (StepsIn.trans d (.one (fenced_calm hb p rfl) VX))⟩
 |exit id =>
  have r:exitTo id (.inScope c::k)=exitTo id k:=by simp[exitTo]
  exact⟨.exit id,i,f,j,fun s q=>.head h0 nt (d.1 s (by rw[r]; exact q)),
   fun o q=>let ⟨k₁,u,h2⟩:=d.2 o (by rw[r]; exact q); ⟨k₁,u,.head h0 nt h2⟩⟩
 |goto l=>exact j.elim
 |ret=>exact⟨_,i,f,j,.of_steps (.one h0 nt) d⟩
 |panic ch=>exact⟨_,i,f,j,.of_steps (.one h0 nt) d⟩
 |outgrown=>exact⟨_,i,f,j,.of_steps (.one h0 nt) d⟩
end
def uG (E:Env ρ) (path:BY Nat) (fid bid:Nat):LI->Prop
 |.lp b=>∀(m:Nat) (S:St) (K:Exit->St->BE ρ) (r:ρ) (ν:Nat->Value) (a:Act) (w:World),E.loops path fid bid m S K=some r->Sim ν S a w->m<=S.h.length->(Code.loop b).wpIn fen 0 E.P (adW m ν S.h w K r) a w
 |.rf g ps x y=>∀(m:Nat) (S:St) (K:Exit->St->BE ρ) (r:ρ) (ν:Nat->Value) (a:Act) (w:World),E.ranges path fid bid m (ev S.t g) S K=some r->Sim ν S a w->m<=S.h.length->(Code.rangeFunc g ps x y).wpIn fen 0 E.P (adW m ν S.h w K r) a w
def KK {E:Env ρ} {call:BY Nat->Bool->Nat->BY AV->BY Blk->(AV->BY Blk->BE ρ)->BE ρ} {L:Nat} (V:nh E L call) {fid:Nat} {path:BY Nat} (U:path.length+2=L) {m:Nat} {r:ρ}:∀(c:Code) (bid:Nat) (S:St) (K:Exit->St->BE ρ) (ν:Nat->Value) (a:Act) (w:World),
 (drawn c=true->wP E L call)->(∀x∈ß bid c,uG E path fid x.1 x.2)->goC E call fid path m bid c S K=some r->Sim ν S a w->m<=S.h.length->c.wpIn fen 0 E.P (adW m ν S.h w K r) a w:=by
 intro c
 induction c with
 |skip=>exact fun bid S K ν a w _ _ e H p=>wpIn_skip ⟨ν,S,H,Ev.refl _ _ _ _,p,Dd.refl _ _,e⟩
 |label l=>exact fun bid S K ν a w _ _ e H p=>wpIn_label ⟨ν,S,H,Ev.refl _ _ _ _,p,Dd.refl _ _,e⟩
 |exit id=>exact fun bid S K ν a w _ _ e H p=>wpIn_exit ⟨ν,S,H,Ev.refl _ _ _ _,p,Dd.refl _ _,e⟩
 |ret=>exact fun bid S K ν a w _ _ e H p=>wpIn_ret ⟨ν,S,H,Ev.refl _ _ _ _,p,Dd.refl _ _,e⟩
 |region rid ops draw =>
  intro bid S K ν a w s _ e H p;simp only[goC,aja] at e
  cases draw with
  |false=>exact acw V (by simpa using U) e H p
  |true=>exact s rfl fid rid _ ops S a K r m ν w (by simpa using U) e H p
 |seq x y ihx ihy =>
  intro bid S K ν a w s q e H p;simp only[goC] at e
  cases v:E.joins path fid (Q8 y) m with
  |none =>
   rw[v] at e;simp only at e;refine wpIn_seq (wpIn_mono (ihx bid S _ ν a w (fun h=>s (by simp[drawn,h])) (fun z u=>q z (dX _ u)) e H p) fun A B w' ha=>?_);obtain⟨ν',o,k,h2,i,f,d⟩:=ha
   cases A with
   |normal =>
    exact wpIn_mono (ihy bid o K ν' B w' (fun h=>s (by simp[drawn,h])) (fun z u=>q z (dT _ u)) d k i) fun R T O ha=>ha.trans h2 f (dh _)
   |exit id=>exact⟨ν',o,k,h2,i,f,d⟩
   |goto l=>exact⟨ν',o,k,h2,i,f,d⟩
   |ret=>exact⟨ν',o,k,h2,i,f,d⟩
   |panic ch=>exact⟨ν',o,k,h2,i,f,d⟩
   |outgrown=>exact⟨ν',o,k,h2,i,f,d⟩
  |some J =>
   rw[v] at e;simp only at e;obtain⟨N,Y,Z⟩:=V.joins _ _ _ _ _ v;rw[Z] at e;refine wpIn_seq (wpIn_mono (ihx bid S _ ν a w (fun h=>s (by simp[drawn,h])) (fun z u=>q z (dX _ u)) e H p) fun A B w' ha=>?_);obtain⟨ν',o,k,h2,i,f,d⟩:=ha
   cases A with
   |normal =>
    simp only at d
    split at d<;>try (cases d; done)
    rename_i I W;obtain⟨C,g1,g2,g3,g4⟩:=Y o I ν' B w' W k i;exact wpIn_mono (ihy bid I K C B w' (fun h=>s (by simp[drawn,h])) (fun z u=>q z (dT _ u)) d g1 g3) fun R T O ha=>ha.trans (h2.trans g2 (dh _)) (f.trans g4 (dh _)) (dh _)
   |exit id=>exact⟨ν',o,k,h2,i,f,d⟩
   |goto l=>exact⟨ν',o,k,h2,i,f,d⟩
   |ret=>exact⟨ν',o,k,h2,i,f,d⟩
   |panic ch=>exact⟨ν',o,k,h2,i,f,d⟩
   |outgrown=>exact⟨ν',o,k,h2,i,f,d⟩
 |cond c x y ihx ihy =>
  intro bid S K ν a w s q e H p;simp only[goC] at e
  split at e<;>try (cases e; done)
  rename_i b hb;have G:=Ō H c;rw[hb] at G;have G:a.eval c=.bool b:=G
  split at e
  ·exact wpIn_cond_true G (ihx bid S K ν a w (fun h=>s (by simp[drawn,h])) (fun z u=>q z (dX _ u)) e H p)
  ·exact wpIn_cond_false G (ihy bid S K ν a w (fun h=>s (by simp[drawn,h])) (fun z u=>q z (dT _ u)) e H p)
 |block id b ih =>
  intro bid S K ν a w s q e H p;simp only[goC] at e;refine wpIn_block (wpIn_mono (ih id S _ ν a w (fun h=>s (by simpa[drawn] using h)) q e H p) fun A B w' ha=>?_);obtain⟨ν',o,k,h2,i,f,d⟩:=ha
  cases A with
  |exit j =>
   simp only[Exit.inBlock];simp only at d
   split at d
   ·rename_i v;rw[if_pos (eq_of_beq v)];exact⟨ν',o,k,h2,i,f,d⟩
   ·rename_i v
    have:¬j=id:=by simpa using v
    rw[if_neg this];exact⟨ν',o,k,h2,i,f,d⟩
  |normal=>exact⟨ν',o,k,h2,i,f,d⟩
  |goto l=>exact⟨ν',o,k,h2,i,f,d⟩
  |ret=>exact⟨ν',o,k,h2,i,f,d⟩
  |panic ch=>exact⟨ν',o,k,h2,i,f,d⟩
  |outgrown=>exact⟨ν',o,k,h2,i,f,d⟩
 |loop b ih =>
  intro bid S K ν a w s q e H p;simp only[goC] at e;exact q (bid,.lp b) (by simp[ß]) m S K r ν a w e H p
 |rangeFunc g ps x y ihx ihy =>
  intro bid S K ν a w s q e H p;simp only[goC] at e;exact q (bid,.rf g ps x y) (by simp[ß]) m S K r ν a w e H p
 |scope b ih =>
  intro bid S K ν a w s q e H p;simp only[goC] at e;refine afK (wpIn_mono (ih bid S _ ν a w (fun h=>s (by simpa[drawn] using h)) q e H p) fun A B w' ha=>?_);obtain⟨ν',o,k,h2,i,f,d⟩:=ha
  cases A with
  |goto l=>cases d
  |normal=>exact⟨ν',o,k,h2,i,f,d⟩
  |exit id=>exact⟨ν',o,k,h2,i,f,d⟩
  |ret=>exact⟨ν',o,k,h2,i,f,d⟩
  |panic ch=>exact⟨ν',o,k,h2,i,f,d⟩
  |outgrown=>exact⟨ν',o,k,h2,i,f,d⟩
 |_=>intro bid S K ν a w s q e H p; cases e
def ww {E:Env ρ} {call:BY Nat->Bool->Nat->BY AV->BY Blk->(AV->BY Blk->BE ρ)->BE ρ} {L:Nat} (i:nh E L call) (j:wP E L call) {fid:Nat} {path:BY Nat} (b:path.length+2=L) {m:Nat} {r:ρ} (c:Code) (bid:Nat) (S:St) (K:Exit->St->BE ρ) (ν:Nat->Value) (a:Act) (w:World)
 (f:∀x∈ß bid c,uG E path fid x.1 x.2) (e:goC E call fid path m bid c S K=some r) (H:Sim ν S a w) (d:m<=S.h.length):c.wpIn fen 0 E.P (adW m ν S.h w K r) a w :=
 KK i b c bid S K ν a w (fun _=>j) f e H d
end
end Go.Am
end

noncomputable section
namespace Go.Am
variable [Ghost]
section
variable {ρ:Type} {ν ν':Nat->Value} {h h':BY Blk} {w w':World} {P:Program}
def akL:Prop:=∀(T:Tpl) (pin:Nat) (cs vs:BY Ty) (S:St) (p:Val (tyL cs)) (v:Val (tyL vs)) (ν:Nat->Value) (a:Act) (w:World),Dk T pin cs vs S=some (p,v)->Sim ν S a w ->
 ∃ν',Sim ν' (ü T cs vs p v) a w/\Ev pin ν S.h w ν' (ü T cs vs p v).h w/\pin<=(ü T cs vs p v).h.length/\Dd pin S.h (ü T cs vs p v).h
def VB:∀(l:BY (Exit×Tpl×BY Ty)) (e:Exit) (i j:Nat),alQ l e i=some j->∃x,i<=j/\l[j-i]?=some x/\Ng x.1 e=true
 |[],_,_,_,h=>by cases h
 |x::l,e,i,j,h=>by
  unfold alQ at h
  split at h
  ·rename_i b;cases h;exact⟨x,dh _,by simp,b⟩
  ·obtain⟨y,d,h2,c⟩:=VB l e (i+1) j h;refine⟨y,by omega,?_,c⟩;rw[show j-i=(j-(i+1))+1 by omega];simpa using h2
def acr {a b:Exit} (h:Ng a b=true):a=b:=by
 unfold Ng at h
 split at h
 ·rw[eq_of_beq h]
 ·rfl
 ·cases h
def alA (hM:akL) {E:Env ρ} {call:BY Nat->Bool->Nat->BY AV->BY Blk->(AV->BY Blk->BE ρ)->BE ρ} {N:Nat} (hE:nh E N call) (hD:wP E N call) {fid bid:Nat} {path:BY Nat} (O:path.length+2=N) {b:Code}
 (hin:∀x∈ß bid b,uG E path fid x.1 x.2) (L:Ç)
 (bF:Val (tyL L.cs)->Val (tyL L.vs)->(Val (tyL L.vs)->BE ρ)->((i:Nat)->Val (tyL (L.zs i))->BE ρ)->BE ρ)
 (law:∀p v G kx,goC E call fid path L.pin bid b (ü L.head L.cs L.vs p v) (Ez L G kx)=bF p v (G p) (fun i=>kx i p)) {m:Nat} {S:St} {K:Exit->St->BE ρ} {r:ρ} {ν:Nat->Value} {a:Act} {w:World} (e:act L bF m S K=some r) (H:Sim ν S a w) (hm:m<=S.h.length):(Code.loop b).wpIn fen 0 E.P (adW m ν S.h w K r) a w:=by
 unfold act at e
 split at e<;>try (cases e; done)
 rename_i c;have c:m<=L.pin:=fq c
 split at e<;>try (cases e; done)
 rename_i p v B;obtain⟨n,hn⟩:=agf e;obtain⟨d,H1,V,T,Y⟩:=hM _ _ _ _ _ _ _ ν a w B H;apply wpIn_loop_rounds n
 have key:∀(n:Nat) (p:Val (tyL L.cs)) (v:Val (tyL L.vs)) (d:Nat->Value) (q:Act) (f:World),akV (fun v G=>bF p v G fun i z=>K (L.xk i) (ü (L.tpl i) L.cs (L.zs i) p z)) n v=some r ->
  Sim d (ü L.head L.cs L.vs p v) q f->Ev m ν S.h w d (ü L.head L.cs L.vs p v).h f->L.pin<=(ü L.head L.cs L.vs p v).h.length->Dd m S.h (ü L.head L.cs L.vs p v).h ->
  Code.roundsIn fen 0 E.P b (adW m ν S.h w K r) n q f:=by
  intro n
  induction n with
  |zero=>intro p v d q f e; cases e
  |succ n ih =>
   intro p v d q f e H1 V T Y;rw[roundsIn_succ];have hl:=law p v (fun p v=>akV (fun v G=>bF p v G fun i z=>K (L.xk i) (ü (L.tpl i) L.cs (L.zs i) p z)) n v) (fun i p z=>K (L.xk i) (ü (L.tpl i) L.cs (L.zs i) p z))
   have e':goC E call fid path L.pin bid b (ü L.head L.cs L.vs p v) (Ez L (fun p v=>akV (fun v G=>bF p v G fun i z=>K (L.xk i) (ü (L.tpl i) L.cs (L.zs i) p z)) n v) (fun i p z=>K (L.xk i) (ü (L.tpl i) L.cs (L.zs i) p z)))=some r:=by
    rw[hl]; exact e
   refine wpIn_mono (ww hE hD O b bid _ _ d q f hin e' H1 T) fun x A o ha=>?_;obtain⟨u,C,H2,ev2,hp2,dd2,k⟩:=ha;have I:Ev m ν S.h w u C.h o:=V.trans ev2 c;have J:Dd m S.h C.h:=Y.trans dd2 c
   have out:∀x,x≠.normal->Ez L (fun p v=>akV (fun v G=>bF p v G fun i z=>K (L.xk i) (ü (L.tpl i) L.cs (L.zs i) p z)) n v) (fun i p z=>K (L.xk i) (ü (L.tpl i) L.cs (L.zs i) p z)) x C=some r->adW m ν S.h w K r x A o:=by
    intro x hx k;unfold Ez at k
    split at k
    ·exact absurd rfl hx
    ·split at k<;>try (cases k; done)
     rename_i i hi
     split at k<;>try (cases k; done)
     rename_i Z z B;obtain⟨y,_,h1,h2⟩:=VB _ _ _ _ hi
     have hxk:L.xk i=x:=by
      have:L.exits[i]?=some y:=by simpa using h1
      unfold Ç.xk;rw[this];exact acr h2
     obtain⟨s,H3,U,R,W⟩:=hM _ _ _ _ _ _ _ u A o B H2;have k:K (L.xk i) (ü (L.tpl i) L.cs (L.zs i) Z z)=some r:=k;rw[hxk] at k;exact⟨s,_,H3,I.trans U c,dE c R,J.trans W c,k⟩
   cases x with
   |normal =>
    simp only[Ez] at k
    split at k<;>try (cases k; done)
    rename_i Z v' B;obtain⟨s,H3,U,R,W⟩:=hM _ _ _ _ _ _ _ u A o B H2;exact ih Z v' s A o k H3 (I.trans U c) R (J.trans W c)
   |exit id=>exact out _ (by simp) k
   |ret=>exact out _ (by simp) k
   |goto l=>exact out _ (by simp) k
   |panic ch=>exact out _ (by simp) k
   |outgrown=>exact out _ (by simp) k
 exact key n p v d a w hn H1 (V.mono c) T (fun j hj hd=>Y j (by omega) hd)
end
end Go.Am
end

noncomputable section
namespace Go.Am
variable [Ghost]
section
variable {ν:Nat->Value} {h h':BY Blk} {w:World}
def abN {t:Ty} {d:DV} {x:Val t} (e:RM t d=some x):d=⟨t,x⟩:=by
 unfold RM at e
 split at e<;>try (cases e; done)
 rename_i b _;obtain⟨ty,val⟩:=d;simp only at b;subst b;cases e;rfl
def afM (u:Ty) (l:BY Ty) (t:Ty) (d:DV) (b:BY DV):afN (u::l) t (d::b)=(match RM t d with
 |some x=>match afN l u b with
  |some y=>some ((x,y):Val t×Val (tys u l))
  |none=>none
 |none=>none):=rfl
def ain (t:Ty) (x:Val t):af8 t [] x=[⟨t,x⟩]:=rfl
def af7 (t u:Ty) (l:BY Ty) (x:Val t) (y:Val (tys u l)):af8 t (u::l) ((x,y):Val t×Val (tys u l))=⟨t,x⟩::af8 u l y:=rfl
def ak2 (l:BY Ty):∀(t:Ty) (b:BY DV) (x:Val (tys t l)),afN l t b=some x->af8 t l x=b:=by
 induction l with
 |nil =>
  intro t b x e
  match b,e with
  |[],e=>exact absurd (show(none:BE (Val t))=some x from e) (fun h=>by cases h)
  |[d],e =>
   have e:RM t d=some x:=e;rw[abN e]; exact ain t x
  |_::_::_,e=>exact absurd (show(none:BE (Val t))=some x from e) (fun h=>by cases h)
 |cons u l i =>
  intro t b x e
  match b,e with
  |[],e=>exact absurd (show(none:BE (Val t×Val (tys u l)))=some x from e) (fun h=>by cases h)
  |d::b,e =>
   rw[afM] at e
   cases c:RM t d with
   |none=>rw[c] at e; exact absurd (show(none:BE (Val t×Val (tys u l)))=some x from e) (fun h=>by cases h)
   |some y =>
    cases f:afN l u b with
    |none=>rw[c,f] at e; exact absurd (show(none:BE (Val t×Val (tys u l)))=some x from e) (fun h=>by cases h)
    |some z =>
     rw[c,f] at e;have e:((y,z):Val t×Val (tys u l))=x:=Option.some.inj e;rw[<-e,abN c,<-i u b z f];exact af7 t u l y z
def ad8 (l:BY Ty) (b:BY DV) (x:Val (tyL l)) (e:ans l b=some x):acG l x=b:=by
 cases l with
 |nil=>cases b with
  |nil=>rfl
  |cons=>cases e
 |cons t l=>exact ak2 l t b x e
def νb (B:BY Bd) (ν:Nat->Value) (i:Nat):Value :=
 match mn B i with
 |some (.at_ id)=>ν id
 |some .new=>.slice none 0 0
 |_=>undef
structure Ext (M M':Mt):Prop where
 bd:∀i id,mn M.bd i=some (.at_ id)->mn M'.bd i=some (.at_ id)
 new:∀i,mn M.bd i=some .new->mn M'.bd i=some .new
 cons:M.cons <+: M'.cons
 vars:M.vars <+: M'.vars
 freed:∀i∈M.freed,i∈M'.freed
 len:M'.bd.length=M.bd.length
def Ext.refl (M:Mt):Ext M M:=⟨fun _ _ h=>h,fun _ h=>h,eN,eN,fun _ h=>h,rfl⟩
def Ext.trans {M c b:Mt} (h:Ext M c) (k:Ext c b):Ext M b :=
 ⟨fun i id q=>k.bd i id (h.bd i id q),fun i q=>k.new i (h.new i q),h.cons.trans k.cons,h.vars.trans k.vars,fun i q=>k.freed i (h.freed i q),k.len.trans h.len⟩
def nV:∀(l:BY Bd) (d:Nat) (b:Bd) (i:Nat),mn (NS l d b) i=if i=d/\d<l.length then some b else mn l i
 |[],d,v,i=>by simp[NS,mn]
 |x::xs,0,v,0=>by simp[NS,mn]
 |x::xs,0,v,i+1=>by simp[NS,mn]
 |x::xs,d+1,v,0=>by simp[NS,mn]
 |x::xs,d+1,v,i+1=>by simp[NS,mn,nV xs d v i]
def Bh:∀(l:BY Bd) (d:Nat) (b:Bd),(NS l d b).length=l.length
 |[],_,_=>rfl
 |_::_,0,_=>rfl
 |_::xs,d+1,v=>by simp[NS,Bh xs d v]
def KD:∀{l:BY Bd} {i:Nat} {b:Bd},mn l i=some b->i<l.length
 |[],_,_,h=>by cases h
 |_::_,0,_,_=>g8 _
 |_::_,i+1,_,h=>Nat.succ_lt_succ (KD (by simpa[mn] using h))
def lY {M d:Mt} {i id:Nat} (e:VP M i id=some d):Ext M d/\mn d.bd i=some (.at_ id)/\d.cons=M.cons/\d.vars=M.vars:=by
 unfold VP at e
 split at e<;>try (cases e; done)
 ·rename_i b;cases e;have k:=KD b;refine⟨⟨fun j f q=>?_,fun j q=>?_,eN,eN,fun _ q=>q,Bh _ _ _⟩,by simp[nV,k],rfl,rfl⟩
  ·simp only[nV]
   by_cases c:j=i
   ·subst c; rw[b] at q; cases q
   ·simp[c,q]
  ·simp only[nV]
   by_cases c:j=i
   ·subst c; rw[b] at q; cases q
   ·simp[c,q]
 ·rename_i f b
  split at e<;>try (cases e; done)
  rename_i hi;cases e;rw[eq_of_beq hi] at b;exact⟨Ext.refl _,b,rfl,rfl⟩
def L4 {M c:Mt} {i:Nat} (e:adM M i=some c):Ext M c/\mn c.bd i=some .new/\c.cons=M.cons/\c.vars=M.vars:=by
 unfold adM at e
 split at e<;>try (cases e; done)
 rename_i d;cases e;have f:=KD d;refine⟨⟨fun j k q=>?_,fun j q=>?_,eN,eN,fun _ q=>q,Bh _ _ _⟩,by simp[nV,f],rfl,rfl⟩
 ·simp only[nV]
  by_cases b:j=i
  ·subst b; rw[d] at q; cases q
  ·simp[b,q]
 ·simp only[nV]
  by_cases b:j=i
  ·subst b; rw[d] at q; cases q
  ·simp[b,q]
def kin:Blk->Blk->Prop
 |.row t _ false xs,B=>B=.row t 0 false xs
 |.row t g true xs,B=>B=.row t g true xs
 |.map k v es,B=>B=.map k v es
 |.cells _,B=>∃b,B=.cells b
 |.dead,B=>B=.dead
 |.acc t xs,B=>B=.acc t xs
structure Fin (ν:Nat->Value) (h:BY Blk) (w:World) (M:Mt) (h':BY Blk):Prop where
 at_:∀i id,mn M.bd i=some (.at_ id)->kin (lkB h id) (lkB h' i)
 new:∀i,mn M.bd i=some .new->∃t,lkB h' i=.row t 0 false []
 out:∀i,(∀id,mn M.bd i≠some (.at_ id))->mn M.bd i≠some .new->lkB h' i=.dead
 freed:∀id∈M.freed,∀i,mn M.bd i≠some (.at_ id)
 inj:∀i j id,mn M.bd i=some (.at_ id)->mn M.bd j=some (.at_ id)->i=j
def Fin.live {M:Mt} (F:Fin ν h w M h') {b:Nat} (hb:F3 (νb M.bd ν) h' b):∃i id,mn M.bd i=some (.at_ id)/\(lkB h id).live=true/\Ŗ (ν id) b:=by
 obtain⟨i,c,j⟩:=hb
 cases d:mn M.bd i with
 |none=>rw[F.out i (by simp[d]) (by simp[d])] at c; cases c
 |some bd =>
  cases bd with
  |open_=>rw[F.out i (by simp[d]) (by simp[d])] at c; cases c
  |new=>simp only[νb,d] at j; cases j
  |at_ id =>
   refine⟨i,id,d,?_,by simpa[νb,d] using j⟩;have f:=F.at_ i id d
   cases e:lkB h id with
   |dead=>rw[e] at f; rw[show lkB h' i=_ from f] at c; cases c
   |cells=>rfl
   |map=>rfl
   |acc=>rfl
   |row t g fz xs =>
    cases fz with
    |false=>rfl
    |true=>rw[e] at f; rw[show lkB h' i=_ from f] at c; cases c
def Fin.subL {M:Mt} (F:Fin ν h w M h') (b:Nat) (hb:F3 (νb M.bd ν) h' b):F3 ν h b:=by
 obtain⟨i,id,_,h2,c⟩:=F.live hb;exact⟨id,h2,c⟩
def Fin.sub {M:Mt} (F:Fin ν h w M h') (b:Nat) (hb:Av (νb M.bd ν) h' b):Av ν h b:=hb.imp_left (F.subL b)
def afe (H:HR ν h w) {M:Mt} (F:Fin ν h w M h') {t:Ty} {v:AV} {u:Value} {x:Val t} (A:∀i∈VA h v,i∈M.freed) (e:Û t [ā h v]=some x) (z:VR ν h w v u) :
 VR (νb M.bd ν) h' w (agx ⟨t,x⟩) u:=by
 have c:∀(q:v.isAgg=false) (p:v.isTup=false),CR w (Av (νb M.bd ν) h') t x [u]:=by
  intro q p;have m:=z.one q p;refine Ģ e ⟨F9 H F.sub m fun id b B l hb=>?_,trivial⟩;rintro(hlive|s)
  rotate_left
  ·exact H.ghne id b l hb s
  obtain⟨i,o,h2,E,C⟩:=F.live hlive;have r:id=o:=H.inj id o b l E hb C;subst r;refine F.freed id (A id ?_) i h2;rcases B with⟨g,rfl⟩|⟨g,lo,n,rfl⟩|rfl
  ·obtain⟨_,y,g',fz,xs,j,_⟩:=m;rw[j] at l
   cases fz with
   |true=>cases l
   |false=>simp[VA,j]
  ·obtain⟨_,y,g',fz,xs,j,_⟩:=m;rw[j] at l
   cases fz with
   |true=>cases l
   |false=>simp[VA,j]
  ·simp[VA]
 have fin:(t≠.unit/\∀a b,t≠.pair a b)->v.isAgg=false/\v.isTup=false:=fun⟨m,h2⟩=>by
  constructor
  ·cases v<;>try rfl
   cases t<;>first|(exact absurd rfl m)|(exact absurd rfl (h2 _ _))|(simp[ā,Û,Β] at e)
  ·cases v<;>try rfl
   cases t<;>first|(exact absurd rfl m)|(exact absurd rfl (h2 _ _))|(simp[ā,Û,Β] at e)
 cases t with
 |unit=>trivial
 |pair a b=>trivial
 |bool=>obtain⟨f,d⟩:=fin ⟨by simp,by simp⟩; exact L1 (c f d)
 |int k=>obtain⟨f,d⟩:=fin ⟨by simp,by simp⟩; exact L1 (c f d)
 |str=>obtain⟨f,d⟩:=fin ⟨by simp,by simp⟩; exact L1 (c f d)
 |slice t=>obtain⟨f,d⟩:=fin ⟨by simp,by simp⟩; exact L1 (c f d)
 |map k v=>obtain⟨f,d⟩:=fin ⟨by simp,by simp⟩; exact L1 (c f d)
 |ptr t=>obtain⟨f,d⟩:=fin ⟨by simp,by simp⟩; exact L1 (c f d)
def ŏ {α:Type} {l C:BY α} {d:α} (h:(l++[d]) <+: C):C.drop l.length=d::C.drop (l.length+1):=by
 obtain⟨t,rfl⟩:=h;simp[dp]
def qR {B:BY Bd} {i id:Nat} (h:mn B i=some (.at_ id)):νb B ν i=ν id:=by simp[νb,h]
def ahl {B:BY Bd} {i:Nat} (h:mn B i=some .new):νb B ν i=.slice none 0 0:=by simp[νb,h]
def kY:∀(ps:BY (Nat×Nat)) (vs:BY AV) (us:BY Value) (M M1:Mt),zI h ps vs M=some M1->Ext M M1/\M1.cons=M.cons/\M1.vars=M.vars /\
 ∀d,Ext M1 d->Fin ν h w d h'->Ĕ (VR0 ν h w) vs us->Ĕ (VR0 (νb d.bd ν) h' w) (ps.map fun c=>.box c.1 c.2) us
 |[],[],us,M,M1,e=>by
  cases e;exact⟨Ext.refl _,rfl,rfl,fun d _ _ f=>by cases us with|nil=>trivial|cons=>exact f.elim⟩
 |[],_::_,_,_,_,e=>by cases e
 |_::_,[],_,_,_,e=>by cases e
 |(i,o)::ps,v::vs,us,M,M1,e=>by
  cases v<;>try (simp[zI] at e; done)
  rename_i id off;simp only[zI] at e
  split at e<;>try (cases e; done)
  rename_i r
  split at e<;>try (cases e; done)
  rename_i cs s
  split at e<;>try (cases e; done)
  rename_i q hb;obtain⟨y,C,B,v1⟩:=lY hb;obtain⟨p,A,v2,_⟩:=kY ps vs us q M1 e;refine⟨y.trans p,A.trans B,v2.trans v1,fun d m F f=>?_⟩
  cases us with
  |nil=>exact f.elim
  |cons u us =>
   refine⟨?_,(kY ps vs us q M1 e).2.2.2 d m F f.2⟩;obtain⟨z,b,E,h2,x⟩:=f.1;have j:=m.bd i id (p.bd i id C);have k:=F.at_ i id j;rw[s] at k;obtain⟨l,k⟩:=k;exact⟨l,b,k,(qR j).trans h2,by rw[eq_of_beq r]; exact x⟩
def rest (b M:Mt):It:=⟨b.cons.drop M.cons.length,b.vars.drop M.vars.length⟩
def uI:∀(ts:BY Ty) (vs:BY AV) (M M1:Mt),zH ts vs M=some M1->Ext M M1/\∀c,Ext M1 c->(Cc ts (rest c M)).2=rest c M1 /\
 ∀us:BY Value,Fin ν h w c h'->Ĕ (VR0 ν h w) vs us->Ĕ (VR0 (νb c.bd ν) h' w) (Cc ts (rest c M)).1 us
 |[],[],M,M1,e=>by
  cases e;exact⟨Ext.refl _,fun c _=>⟨rfl,fun us _ d=>by cases us with|nil=>trivial|cons=>exact d.elim⟩⟩
 |[],_::_,_,_,e=>by cases e
 |_::_,[],_,_,e=>by cases e
 |t::ts,v::vs,M,M1,e=>by
  cases v<;>try (simp[zH] at e; done)
  rename_i i x o;simp only[zH] at e
  split at e<;>try (cases e; done)
  rename_i f
  split at e<;>try (cases e; done)
  rename_i E _;have f:=dz f;subst f;obtain⟨m,r⟩:=uI ts vs _ M1 e;have C:Ext M {M with cons:=M.cons++[⟨.ptr i,x⟩]}:=⟨fun _ _ q=>q,fun _ q=>q,eE _ _,eN,fun _ q=>q,rfl⟩;refine⟨C.trans m,fun c l=>?_⟩;obtain⟨k,j⟩:=r c l;have hd:=ŏ (m.trans l).cons
  have s:rest c {M with cons:=M.cons++[⟨.ptr i,x⟩]}=⟨c.cons.drop (M.cons.length+1),c.vars.drop M.vars.length⟩:=by simp[rest]
  rw[s] at k j;simp only[rest,Cc,hd];refine⟨k,fun us F d=>?_⟩
  cases us with
  |nil=>exact d.elim
  |cons u us =>
   refine⟨?_,j us F d.2⟩;obtain⟨b,o,p,B,h2,A,z,y⟩:=d.1;exact⟨b,o,p,B,fun h=>h2 (F.sub b h),A,CR.mono F.sub z,y⟩
def OE (H:HR ν h w) {p:Pat} {v:AV} {M M1:Mt} (e:iV h p v M=some M1):Ext M M1/\∀c u,Ext M1 c->Fin ν h w c h'->VR ν h w v u ->
 VR (νb c.bd ν) h' w (yf p ⟨c.cons.drop M.cons.length,c.vars.drop M.vars.length⟩).1 u /\
  (yf p ⟨c.cons.drop M.cons.length,c.vars.drop M.vars.length⟩).2=⟨c.cons.drop M1.cons.length,c.vars.drop M1.vars.length⟩:=by
 cases p with
 |any=>cases e; exact⟨Ext.refl _,fun c u _ _ _=>⟨trivial,rfl⟩⟩
 |con t =>
  simp only[iV] at e
  split at e<;>try (cases e; done)
  rename_i x G;cases e;refine⟨⟨fun _ _ q=>q,fun _ q=>q,eE _ _,eN,fun _ q=>dT _ q,rfl⟩,fun c u j F d=>?_⟩;have hd:=ŏ j.cons;simp only[yf,hd];exact⟨afe H F (fun i hi=>j.freed i (dX _ hi)) G d,by simp⟩
 |var t =>
  simp only[iV] at e
  split at e<;>try (cases e; done)
  rename_i x G;cases e;refine⟨⟨fun _ _ q=>q,fun _ q=>q,eN,eE _ _,fun _ q=>dT _ q,rfl⟩,fun c u j F d=>?_⟩;have hd:=ŏ j.vars;simp only[yf,hd];exact⟨afe H F (fun i hi=>j.freed i (dX _ hi)) G d,by simp⟩
 |own i =>
  simp only[iV] at e
  split at e<;>try (cases e; done)
  ·rename_i id g
   split at e<;>try (cases e; done)
   rename_i t g' xs z
   split at e<;>try (cases e; done)
   rename_i U;obtain⟨o,y,r,v1⟩:=lY e;refine⟨o,fun c u j F d=>⟨?_,by simp only[yf,r,v1]⟩⟩;have l:=j.bd i id y;have m:=F.at_ i id l;rw[z] at m;obtain⟨J,t2,g2,W,S,s,_,I⟩:=d;rw[z] at s; cases s;exact⟨J,t,0,false,xs,m,dh _,fun _=>(I (eq_of_beq U)).trans (qR l).symm⟩
  ·obtain⟨o,y,r,v1⟩:=L4 e;refine⟨o,fun c u j F d=>⟨?_,by simp only[yf,r,v1]⟩⟩;have B:=j.new i y;obtain⟨t,m⟩:=F.new i B;have R:u=.slice none 0 0:=d;exact⟨by rw[R]; rfl,t,0,false,[],m,dh _,fun _=>R.trans (ahl B).symm⟩
 |omp i =>
  simp only[iV] at e
  split at e<;>try (cases e; done)
  rename_i id
  split at e<;>try (cases e; done)
  rename_i k T es z;obtain⟨o,y,r,v1⟩:=lY e;refine⟨o,fun c u j F d=>⟨?_,by simp only[yf,r,v1]⟩⟩;have l:=j.bd i id y;have m:=F.at_ i id l;rw[z] at m;obtain⟨J,O,v2,Z,s,I⟩:=d;exact⟨J,k,T,es,m,I.trans (qR l).symm⟩
 |box i off =>
  simp only[iV] at e
  split at e<;>try (cases e; done)
  rename_i id N
  split at e<;>try (cases e; done)
  rename_i A
  split at e<;>try (cases e; done)
  rename_i cs z;obtain⟨o,y,r,v1⟩:=lY e;refine⟨o,fun c u j F d=>⟨?_,by simp only[yf,r,v1]⟩⟩;have l:=j.bd i id y;have m:=F.at_ i id l;rw[z] at m;obtain⟨L,m⟩:=m;obtain⟨cs',b,h1,h2,V⟩:=d;exact⟨L,b,m,(qR l).trans h2,by rw[eq_of_beq A]; exact V⟩
 |nils =>
  simp only[iV] at e
  split at e<;>try (cases e; done)
  cases e;exact⟨Ext.refl _,fun c u _ _ d=>⟨d,rfl⟩⟩
 |nilp =>
  simp only[iV] at e
  split at e<;>try (cases e; done)
  cases e;exact⟨Ext.refl _,fun c u _ _ d=>⟨d,rfl⟩⟩
 |nilfn =>
  simp only[iV] at e
  split at e<;>try (cases e; done)
  cases e;exact⟨Ext.refl _,fun c u _ _ d=>⟨d,rfl⟩⟩
 |yld =>
  simp only[iV] at e
  split at e<;>try (cases e; done)
  cases e;exact⟨Ext.refl _,fun c u _ _ d=>⟨d,rfl⟩⟩
 |fn f caps =>
  simp only[iV] at e
  split at e<;>try (cases e; done)
  rename_i Y vs
  split at e<;>try (cases e; done)
  rename_i K;obtain⟨o,r,v1,_⟩:=kY (ν:=ν) (w:=w) (h':=h') caps vs [] M M1 e;refine⟨o,fun c u j F d=>⟨?_,by simp only[yf,r,v1]⟩⟩;obtain⟨fs,cs,rfl,E,C⟩:=d;have:=(kY (ν:=ν) (w:=w) (h':=h') caps vs cs.toList M M1 e).2.2.2 c j F C;exact⟨fs,cs,by rw[eq_of_beq K],by rw[E.nil_left]; trivial,this⟩
 |fnd f ts =>
  simp only[iV] at e
  split at e<;>try (cases e; done)
  rename_i Y vs
  split at e<;>try (cases e; done)
  rename_i K;obtain⟨o,k⟩:=uI (ν:=ν) (h:=h) (w:=w) (h':=h') ts vs M M1 e;refine⟨o,fun c u j F d=>?_⟩;obtain⟨k1,O⟩:=k c j;obtain⟨fs,cs,rfl,E,C⟩:=d;exact⟨⟨fs,cs,by rw[eq_of_beq K],by rw[E.nil_left]; trivial,O cs.toList F C⟩,k1⟩
def N4 {b M M1:Mt} (c:M1.cons=M.cons) (h2:M1.vars=M.vars):rest b M=rest b M1:=by simp only[rest,c,h2]
def xc {p:Pat} {v:AV} {M M1:Mt} (e:iV h p v M=some M1):Ext M M1/\∀b,Ext M1 b->(yf p (rest b M)).2=rest b M1:=by
 cases p with
 |any=>cases e; exact⟨Ext.refl _,fun b _=>rfl⟩
 |con t =>
  simp only[iV] at e
  split at e<;>try (cases e; done)
  rename_i x m;cases e;refine⟨⟨fun _ _ q=>q,fun _ q=>q,eE _ _,eN,fun _ q=>dT _ q,rfl⟩,fun b d=>?_⟩;have hd:=ŏ d.cons;simp only[rest,yf,hd]; simp
 |var t =>
  simp only[iV] at e
  split at e<;>try (cases e; done)
  rename_i x m;cases e;refine⟨⟨fun _ _ q=>q,fun _ q=>q,eN,eE _ _,fun _ q=>dT _ q,rfl⟩,fun b d=>?_⟩;have hd:=ŏ d.vars;simp only[rest,yf,hd]; simp
 |own i =>
  simp only[iV] at e
  split at e<;>try (cases e; done)
  ·split at e<;>try (cases e; done)
   split at e<;>try (cases e; done)
   obtain⟨c,l,j,v1⟩:=lY e;exact⟨c,fun b d=>N4 j v1⟩
  ·obtain⟨c,l,j,v1⟩:=L4 e;exact⟨c,fun b d=>N4 j v1⟩
 |omp i =>
  simp only[iV] at e
  split at e<;>try (cases e; done)
  split at e<;>try (cases e; done)
  obtain⟨c,l,j,v1⟩:=lY e;exact⟨c,fun b d=>N4 j v1⟩
 |box i off =>
  simp only[iV] at e
  split at e<;>try (cases e; done)
  split at e<;>try (cases e; done)
  split at e<;>try (cases e; done)
  obtain⟨c,l,j,v1⟩:=lY e;exact⟨c,fun b d=>N4 j v1⟩
 |nils =>
  simp only[iV] at e
  split at e<;>try (cases e; done)
  cases e; exact⟨Ext.refl _,fun b _=>rfl⟩
 |nilp =>
  simp only[iV] at e
  split at e<;>try (cases e; done)
  cases e; exact⟨Ext.refl _,fun b _=>rfl⟩
 |nilfn =>
  simp only[iV] at e
  split at e<;>try (cases e; done)
  cases e; exact⟨Ext.refl _,fun b _=>rfl⟩
 |yld =>
  simp only[iV] at e
  split at e<;>try (cases e; done)
  cases e; exact⟨Ext.refl _,fun b _=>rfl⟩
 |fn f caps =>
  simp only[iV] at e
  split at e<;>try (cases e; done)
  rename_i o vs
  split at e<;>try (cases e; done)
  obtain⟨c,j,v1,_⟩:=kY (ν:=fun _=>undef) (w:=default) (h':=[]) caps vs [] M M1 e;exact⟨c,fun b d=>N4 j v1⟩
 |fnd f ts =>
  simp only[iV] at e
  split at e<;>try (cases e; done)
  rename_i o vs
  split at e<;>try (cases e; done)
  obtain⟨c,k⟩:=uI (ν:=fun _=>undef) (h:=[]) (w:=default) (h':=[]) ts vs M M1 e;exact⟨c,fun b d=>(k b d).1⟩
def wu (p:Pat) (ps:BY Pat) (I:It):KI (p::ps) I=((yf p I).1::(KI ps (yf p I).2).1,(KI ps (yf p I).2).2):=rfl
def EL:∀{ps:BY Pat} {vs:BY AV} {M M1:Mt},UY h ps vs M=some M1->Ext M M1/\∀b,Ext M1 b->(KI ps (rest b M)).2=rest b M1
 |[],vs,M,M1,e=>by cases e; exact⟨Ext.refl _,fun b _=>rfl⟩
 |p::ps,vs,M,M1,e=>by
  simp only[UY] at e
  split at e<;>try (cases e; done)
  rename_i k i;obtain⟨j,f⟩:=xc i;obtain⟨d,t2⟩:=EL e;exact⟨j.trans d,fun b c=>by rw[wu,f b (d.trans c)]; exact t2 b c⟩
def aau (H:HR ν h w):∀{ps:BY Pat} {vs:BY AV} {M M1:Mt},UY h ps vs M=some M1->∀b,Ext M1 b->Fin ν h w b h'->∀f:Nat->Value,(∀k,VR ν h w (lk vs k) (f k)) ->
 ∀k,VR (νb b.bd ν) h' w (lk (KI ps (rest b M)).1 k) (f k)
 |[],vs,M,M1,e,b,_,_,f,_,k=>trivial
 |p::ps,vs,M,M1,e,b,c,F,f,d,k=>by
  simp only[UY] at e
  split at e<;>try (cases e; done)
  rename_i q i;obtain⟨o,l⟩:=xc i;obtain⟨j,t2⟩:=EL e;rw[wu,l b (j.trans c)]
  cases k with
  |zero=>exact((OE H i).2 b (f 0) (j.trans c) F (d 0)).1
  |succ k =>
   have m:∀k,lk vs.tail k=lk vs (k+1):=fun k=>by cases vs<;>rfl
   exact aau H e b c F (fun k=>f (k+1)) (fun k=>by rw[m]; exact d (k+1)) k
def qX:∀{ps:BY Pat} {vs:BY AV} {M M1:Mt},qJ h ps vs M=some M1->Ext M M1/\∀b,Ext M1 b->(KI ps (rest b M)).2=rest b M1
 |[],[],M,M1,e=>by cases e; exact⟨Ext.refl _,fun b _=>rfl⟩
 |[],_::_,M,M1,e=>by cases e
 |_::_,[],M,M1,e=>by cases e
 |p::ps,v::vs,M,M1,e=>by
  simp only[qJ] at e
  split at e<;>try (cases e; done)
  rename_i k i;obtain⟨j,f⟩:=xc i;obtain⟨d,t2⟩:=qX e;exact⟨j.trans d,fun b c=>by rw[wu,f b (d.trans c)]; exact t2 b c⟩
def agl (p:Pat) (I:It):(yf p I).1.isAgg=false/\(yf p I).1.isTup=false:=by
 have b:∀d:DV,(agx d).isAgg=false/\(agx d).isTup=false:=fun d=>by
  obtain⟨t,x⟩:=d
  cases t<;>exact⟨rfl,rfl⟩
 cases p<;>simp only[yf]<;>try exact⟨rfl,rfl⟩
 ·split<;>first|exact b _|exact⟨rfl,rfl⟩
 ·split<;>first|exact b _|exact⟨rfl,rfl⟩
def Gz (H:HR ν h w):∀{ps:BY Pat} {vs:BY AV} {us:BY Value} {M M1:Mt},qJ h ps vs M=some M1->∀b,Ext M1 b->Fin ν h w b h'->Ĕ (VRc ν h w) vs us ->
 Ĕ (VRc (νb b.bd ν) h' w) (KI ps (rest b M)).1 us
 |[],[],us,M,M1,e,b,_,_,c=>by cases us with|nil=>trivial|cons=>exact c.elim
 |[],_::_,_,M,M1,e,_,_,_,_=>by cases e
 |_::_,[],_,M,M1,e,_,_,_,_=>by cases e
 |p::ps,v::vs,us,M,M1,e,b,f,F,c=>by
  simp only[qJ] at e
  split at e<;>try (cases e; done)
  rename_i m i;obtain⟨l,k⟩:=xc i;obtain⟨j,t2⟩:=qX e;rw[wu,k b (j.trans f)]
  cases us with
  |nil=>exact c.elim
  |cons u us =>
   have h2:=((OE H i).2 b u (j.trans f) F c.1.1.up).1;have d:=agl p (rest b M);exact⟨⟨h2.one d.1 d.2,c.1.2⟩,Gz H e b f F c.2⟩
def NG (M:Mt) (d:DV):Ext M {M with cons:=M.cons++[d]}:=⟨fun _ _ q=>q,fun _ q=>q,eE _ _,eN,fun _ q=>q,rfl⟩
def NF (M:Mt) (d:DV):Ext M {M with vars:=M.vars++[d]}:=⟨fun _ _ q=>q,fun _ q=>q,eN,eE _ _,fun _ q=>q,rfl⟩
def OD {p:jt} {i:Nat} {M M1:Mt} (e:my h p i M=some M1):Ext M M1/\∀c,Ext M1 c->(C3 p (rest c M)).2=rest c M1 /\
 ((∃id,mn M.bd i=some (.at_ id)/\kin (lkB h id) (C3 p (rest c M)).1)\/(mn M.bd i=some .new/\∃t,(C3 p (rest c M)).1=.row t 0 false [])):=by
 cases p with
 |dead =>
  simp only[my] at e
  split at e<;>try (cases e; done)
  rename_i id hb
  split at e<;>try (cases e; done)
  rename_i d;cases e;exact⟨Ext.refl _,fun c _=>⟨rfl,.inl ⟨id,hb,by rw[d]; rfl⟩⟩⟩
 |cells ps =>
  simp only[my] at e
  split at e<;>try (cases e; done)
  rename_i id hb
  split at e<;>try (cases e; done)
  rename_i cs d;obtain⟨q,l⟩:=qX e;exact⟨q,fun c b=>⟨l c b,.inl ⟨id,hb,by rw[d]; exact⟨_,rfl⟩⟩⟩⟩
 |rowc t =>
  simp only[my] at e
  split at e<;>try (cases e; done)
  ·rename_i id hb
   split at e<;>try (cases e; done)
   rename_i f g xs d
   split at e<;>try (cases e; done)
   cases e;refine⟨NG _ _,fun c b=>?_⟩;have hd:=ŏ b.cons;simp only[rest,C3,hd];exact⟨by simp,.inl ⟨id,hb,by rw[d]; rfl⟩⟩
  ·rename_i hb;cases e;refine⟨NG _ _,fun c b=>?_⟩;have hd:=ŏ b.cons;simp only[rest,C3,hd];exact⟨by simp,.inr ⟨hb,t,rfl⟩⟩
 |rowf t g =>
  simp only[my] at e
  split at e<;>try (cases e; done)
  rename_i id hb
  split at e<;>try (cases e; done)
  rename_i f g' xs d
  split at e<;>try (cases e; done)
  split at e<;>try (cases e; done)
  rename_i o _;subst o;cases e;refine⟨NG _ _,fun c b=>?_⟩;have hd:=ŏ b.cons;simp only[rest,C3,hd];exact⟨by simp,.inl ⟨id,hb,by rw[d]; rfl⟩⟩
 |rowv t =>
  simp only[my] at e
  split at e<;>try (cases e; done)
  ·rename_i id hb
   split at e<;>try (cases e; done)
   rename_i f g xs d
   split at e<;>try (cases e; done)
   cases e;refine⟨NF _ _,fun c b=>?_⟩;have hd:=ŏ b.vars;simp only[rest,C3,hd];exact⟨by simp,.inl ⟨id,hb,by rw[d]; rfl⟩⟩
  ·rename_i hb;cases e;refine⟨NF _ _,fun c b=>?_⟩;have hd:=ŏ b.vars;simp only[rest,C3,hd];exact⟨by simp,.inr ⟨hb,t,rfl⟩⟩
 |mapc k v =>
  simp only[my] at e
  split at e<;>try (cases e; done)
  rename_i id hb
  split at e<;>try (cases e; done)
  rename_i m j es d
  split at e<;>try (cases e; done)
  cases e;refine⟨NG _ _,fun c b=>?_⟩;have hd:=ŏ b.cons;simp only[rest,C3,hd];exact⟨by simp,.inl ⟨id,hb,by rw[d]; rfl⟩⟩
 |mapv k v =>
  simp only[my] at e
  split at e<;>try (cases e; done)
  rename_i id hb
  split at e<;>try (cases e; done)
  rename_i m j es d
  split at e<;>try (cases e; done)
  cases e;refine⟨NF _ _,fun c b=>?_⟩;have hd:=ŏ b.vars;simp only[rest,C3,hd];exact⟨by simp,.inl ⟨id,hb,by rw[d]; rfl⟩⟩
 |acc t =>
  simp only[my] at e
  split at e<;>try (cases e; done)
  rename_i id hb
  split at e<;>try (cases e; done)
  rename_i f xs d
  split at e<;>try (cases e; done)
  cases e;refine⟨NF _ _,fun c b=>?_⟩;have hd:=ŏ b.vars;simp only[rest,C3,hd];exact⟨by simp,.inl ⟨id,hb,by rw[d]; rfl⟩⟩
def aiA (H:HR ν h w) {p:jt} {i id:Nat} {M M1:Mt} {cs:BY AV} (e:my h p i M=some M1) (hb:mn M.bd i=some (.at_ id)) (b:lkB h id=.cells cs) {d:Mt} (j:Ext M1 d) (F:Fin ν h w d h') {us:BY Value} (f:Ĕ (VRc ν h w) cs us) :
 ∃c,(C3 p (rest d M)).1=.cells c/\Ĕ (VRc (νb d.bd ν) h' w) c us:=by
 cases p with
 |cells ps =>
  simp only[my,hb,b] at e;exact⟨_,rfl,Gz H e d j F f⟩
 |dead=>simp[my,hb,b] at e
 |rowc t=>simp[my,hb,b] at e
 |rowf t g=>simp[my,hb,b] at e
 |rowv t=>simp[my,hb,b] at e
 |mapc k v=>simp[my,hb,b] at e
 |mapv k v=>simp[my,hb,b] at e
 |acc t=>simp[my,hb,b] at e
def KJ (p:jt) (ps:BY jt) (I:It):Iq (p::ps) I=((C3 p I).1::(Iq ps (C3 p I).2).1,(Iq ps (C3 p I).2).2):=rfl
def Bl:∀(ps:BY jt) (I:It),(Iq ps I).1.length=ps.length
 |[],_=>rfl
 |p::ps,I=>by rw[KJ]; simp[Bl ps]
def EM:∀{ps:BY jt} {i:Nat} {M M1:Mt},UZ h ps i M=some M1->Ext M M1/\∀b,Ext M1 b->∀k,k<ps.length ->
 (∃id,mn b.bd (i+k)=some (.at_ id)/\kin (lkB h id) (lkB (Iq ps (rest b M)).1 k))\/(mn b.bd (i+k)=some .new/\∃t,lkB (Iq ps (rest b M)).1 k=.row t 0 false [])
 |[],i,M,M1,e=>by cases e; exact⟨Ext.refl _,fun b _ k l=>by simp at l⟩
 |p::ps,i,M,M1,e=>by
  simp only[UZ] at e
  split at e<;>try (cases e; done)
  rename_i u s;obtain⟨m,r⟩:=OD s;obtain⟨d,t2⟩:=EM e;refine⟨m.trans d,fun b c k l=>?_⟩;obtain⟨q,o⟩:=r b (d.trans c);rw[KJ,q]
  cases k with
  |zero =>
   rcases o with⟨id,j,f⟩|⟨j,f⟩
   ·exact .inl ⟨id,(m.trans (d.trans c)).bd _ _ j,f⟩
   ·exact .inr ⟨(m.trans (d.trans c)).new _ j,f⟩
  |succ k =>
   have:=t2 b c k (by simpa using l);rw[show i+(k+1)=i+1+k by omega];exact this
def aav (H:HR ν h w):∀{ps:BY jt} {i:Nat} {M M1:Mt},UZ h ps i M=some M1->∀c,Ext M1 c->Fin ν h w c h'->∀k id cs us,k<ps.length->mn c.bd (i+k)=some (.at_ id)->lkB h id=.cells cs->Ĕ (VRc ν h w) cs us ->
 ∃f,lkB (Iq ps (rest c M)).1 k=.cells f/\Ĕ (VRc (νb c.bd ν) h' w) f us
 |[],i,M,M1,e,c,_,_,k,_,_,_,m,_,_,_=>by simp at m
 |p::ps,i,M,M1,e,c,d,F,k,id,cs,us,m,hb,q,o=>by
  simp only[UZ] at e
  split at e<;>try (cases e; done)
  rename_i A r;obtain⟨s,x⟩:=OD r;obtain⟨l,t2⟩:=EM e;obtain⟨v,u⟩:=x c (l.trans d);rw[KJ,v]
  cases k with
  |zero =>
   rcases u with⟨z,j,y⟩|⟨j,y⟩
   ·have:=(s.trans (l.trans d)).bd _ _ j;have b:mn c.bd i=some (.at_ id):=hb;rw[this] at b;cases b;exact aiA H r j q (l.trans d) F o
   ·have:=(s.trans (l.trans d)).new _ j;have b:mn c.bd i=some (.at_ id):=hb;rw[this] at b;cases b
  |succ k=>exact aav H e c d F k id cs us (by simpa using m) (by rw[show i+1+k=i+(k+1) by omega]; exact hb) q o
def Ix:∀{l:BY Bd} {i id:Nat},mn l i=some (.at_ id)->id∈M3 l
 |[],_,_,h=>by cases h
 |x::l,0,id,h=>by
  simp only[mn,Option.some.injEq] at h;subst h; simp[M3]
 |x::l,i+1,id,h=>by
  have:=Ix (l:=l) (i:=i) (id:=id) h
  cases x<;>simp[M3,this]
def L2:∀{l:BY Bd} {i j id:Nat},distinct (M3 l)=true->mn l i=some (.at_ id)->mn l j=some (.at_ id)->i=j
 |[],_,_,_,_,h,_=>by cases h
 |x::l,0,0,_,_,_,_=>rfl
 |x::l,0,j+1,id,hd,b,h2=>by
  simp only[mn,Option.some.injEq] at b;subst b;simp only[M3,distinct,dg] at hd;have:=Ix (l:=l) (i:=j) (id:=id) h2;simp[this] at hd
 |x::l,i+1,0,id,hd,b,h2=>by
  simp only[mn,Option.some.injEq] at h2;subst h2;simp only[M3,distinct,dg] at hd;have:=Ix (l:=l) (i:=i) (id:=id) b;simp[this] at hd
 |x::l,i+1,j+1,id,hd,b,h2=>by
  have c:distinct (M3 l)=true:=by
   cases x<;>simp only[M3,distinct,dg] at hd<;>first|exact hd|exact hd.2
  rw[L2 (l:=l) c b h2]
def afQ {pin n i:Nat} (hi:i<pin) (c:pin<=n):mn (EA pin n) i=some (.at_ i):=by
 have key:∀(l:BY Bd) (k:Nat),mn l k=l[k]?:=by
  intro l
  induction l with
  |nil=>intro k; simp[mn]
  |cons x l b=>intro k; cases k with
   |zero=>rfl
   |succ k=>simpa[mn] using b k
 rw[key,EA,fc,gy (by omega)];simp[hi]
def Vy:∀{pin:Nat},alP h pin=true->∀i,i<pin->∀t g xs,lkB h i=.row t g false xs->g=0
 |0,_,i,hi,_,_,_,_=>by omega
 |pin+1,b,i,hi,t,g,xs,d=>by
  simp only[alP] at b
  split at b<;>try (cases b; done)
  rename_i c;rcases hZ.1 hi with e|rfl
  ·exact Vy b i e t g xs d
  ·cases g with
   |zero=>rfl
   |succ g=>exact absurd d (c _ _ _)
def Vo:∀(l:BY AV) (n k:Nat),lk (l++List.replicate n .any) k=lk l k
 |[],0,_=>rfl
 |[],n+1,0=>rfl
 |[],n+1,k+1=>by simpa[gA,lk] using Vo [] n k
 |x::l,n,0=>rfl
 |x::l,n,k+1=>by simpa[lk] using Vo l n k
def LS:∀(ps:BY Pat) (I:It),(KI ps I).1.length=ps.length
 |[],_=>rfl
 |p::ps,I=>by rw[wu]; simp[LS ps]
def WI:akL:=by
 intro T pin cs vs S p v ν a w e H;unfold Dk at e
 split at e<;>try (cases e; done)
 rename_i hc;simp only[dg,decide_eq_true_eq] at hc;obtain⟨c1,c2,c3,c4⟩:=hc
 split at e<;>try (cases e; done)
 rename_i N hL
 split at e<;>try (cases e; done)
 rename_i M hH
 split at e<;>try (cases e; done)
 rename_i hd;simp only[dg,dM] at hd;obtain⟨d1,d2⟩:=hd
 split at e<;>try (cases e; done)
 rename_i p' v' hp hv;cases e;have ep:acG cs p=M.cons:=ad8 cs _ _ hp;have ev:acG vs v=M.vars:=ad8 vs _ _ hv;obtain⟨eL,tL⟩:=EL hL;obtain⟨Y,Z⟩:=EM hH
 -- the state of the pattern
 have hI0:({cons:=acG cs p,vars:=acG vs v}:It)=rest M {bd:=EA pin T.heap.length,cons:=[],vars:=[],freed:=[]}:=by
  simp[rest,ep,ev]
 have J:ü T cs vs p v={t:=(KI T.slots (rest M {bd:=EA pin T.heap.length,cons:=[],vars:=[],freed:=[]})).1++List.replicate (T.n-T.slots.length) .any,h:=(Iq T.heap (rest M N)).1}:=by
  unfold ü;rw[hI0];have:=tL M Y;show(St.mk _ _)=_;rw[show(KI T.slots (rest M {bd:=EA pin T.heap.length,cons:=[],vars:=[],freed:=[]})).2=rest M N from this]
 rw[J]
 have q:M.bd.length=T.heap.length:=by rw[Y.len,eL.len]; simp[EA]
 have z:(Iq T.heap (rest M N)).1.length=T.heap.length:=Bl _ _
 have F:Fin ν S.h w M (Iq T.heap (rest M N)).1:=by
  refine⟨fun i id hb=>?_,fun i hb=>?_,fun i h1 h2=>?_,fun id hid i hb=>?_,fun i j id=>L2 d1⟩
  ·have hi:i<T.heap.length:=by rw[<-q]; exact KD hb
   rcases Z M (Ext.refl _) i hi with⟨y,d,l⟩|⟨d,_⟩
   ·rw[dQ,hb] at d; cases d; exact l
   ·rw[dQ,hb] at d; cases d
  ·have hi:i<T.heap.length:=by rw[<-q]; exact KD hb
   rcases Z M (Ext.refl _) i hi with⟨y,d,l⟩|⟨d,l⟩
   ·rw[dQ,hb] at d; cases d
   ·exact l
  ·rcases dv i T.heap.length with hi|hi
   ·rcases Z M (Ext.refl _) i hi with⟨y,d,l⟩|⟨d,l⟩
    ·rw[dQ] at d; exact absurd d (h1 y)
    ·rw[dQ] at d; exact absurd d h2
   ·exact abh _ _ (by rw[z]; exact hi)
  ·have:=d2 id hid;have hm:=Ix hb;simp[hm] at this
 have hHR:HR (νb M.bd ν) (Iq T.heap (rest M N)).1 w:=by
  refine⟨fun i=>?_,fun i j b hi hj A hbj=>?_,H.heap.ghlt,fun i b r hb hg=>?_⟩
  rotate_left 2
  ·obtain⟨id,d,l⟩:=F.subL b ⟨i,r,hb⟩;exact H.heap.ghne id b d l hg
  ·cases hb:mn M.bd i with
   |none=>rw[F.out i (by simp[hb]) (by simp[hb])]; trivial
   |some x =>
    cases x with
    |open_=>rw[F.out i (by simp[hb]) (by simp[hb])]; trivial
    |new =>
     obtain⟨t,ht⟩:=F.new i hb;rw[ht];exact⟨none,0,ahl hb,dh _,.inl ⟨rfl,rfl⟩⟩
    |at_ id =>
     have f:=F.at_ i id hb;have E:=H.heap.blk id
     cases r:lkB S.h id with
     |dead=>rw[r] at f; rw[show lkB _ i=_ from f]; trivial
     |cells c =>
      rw[r] at E;obtain⟨b,W,e',d,l,s⟩:=E
      have hi:i<T.heap.length:=by rw[<-q]; exact KD hb
      obtain⟨cs',C,I⟩:=aav H.heap hH M (Ext.refl _) F i id c W.toList hi (by rw[dQ]; exact hb) r s;rw[C];exact⟨b,W,e',(qR hb).trans d,l,I⟩
     |row t g fz xs =>
      rw[r] at f E
      cases fz with
      |true =>
       rw[show lkB _ i=_ from f];show CR w _ (.slice t) xs [_];rw[qR hb];exact CR.mono F.sub E
      |false =>
       rw[show lkB _ i=_ from f];obtain⟨base,cap,d,l,s⟩:=E;refine⟨base,cap,(qR hb).trans d,l,?_⟩;rcases s with s|⟨b,off,c,e',C,I,O,q7⟩
       ·exact .inl s
       ·refine .inr ⟨b,off,c,e',C,I,O,fun j x R=>?_⟩;obtain⟨us,q8,q9⟩:=q7 j x R;exact⟨us,CR.mono F.sub q8,q9⟩
     |map k u es =>
      rw[r] at f E;rw[show lkB _ i=_ from f];obtain⟨b,B,L,d,l,s,C⟩:=E;refine⟨b,B,L,(qR hb).trans d,l,s,fun j x R=>?_⟩;obtain⟨m,us,I,O,q7,q8⟩:=C j x R;exact⟨m,us,I,CR.mono F.sub O,CR.mono F.sub q7,q8⟩
     |acc t xs =>
      rw[r] at f E;rw[show lkB _ i=_ from f];obtain⟨us,d,l,s,C⟩:=E;refine⟨us,(qR hb).trans d,by rw[qR hb]; exact l,s,?_⟩;rw[qR hb];exact Ghost.st _ _ _ _ _ _ C ⟨rfl,rfl,rfl,dh _,fun b _ hn R=>hn (F.sub b R),fun b o ho _ _=>ho,fun b o ho _ _=>ho⟩
  ·have V:∀i,(lkB (Iq T.heap (rest M N)).1 i).live=true->Ŗ (νb M.bd ν i) b->∃id,mn M.bd i=some (.at_ id)/\(lkB S.h id).live=true/\Ŗ (ν id) b:=fun i hi A=>by
    cases hb:mn M.bd i with
    |none=>rw[F.out i (by simp[hb]) (by simp[hb])] at hi; cases hi
    |some x =>
     cases x with
     |open_=>rw[F.out i (by simp[hb]) (by simp[hb])] at hi; cases hi
     |new=>simp only[νb,hb] at A; cases A
     |at_ id =>
      refine⟨id,rfl,?_,by simpa[νb,hb] using A⟩;have f:=F.at_ i id hb
      cases U:lkB S.h id with
      |dead=>rw[U] at f; rw[show lkB _ i=_ from f] at hi; cases hi
      |cells=>rfl
      |map=>rfl
      |acc=>rfl
      |row t g fz xs =>
       cases fz with
       |false=>rfl
       |true=>rw[U] at f; rw[show lkB _ i=_ from f] at hi; cases hi
   obtain⟨id,d,l,s⟩:=V i hi A;obtain⟨y,C,I,O⟩:=V j hj hbj;have:=H.heap.inj id y b l I s O;subst this;exact F.inj i j id d C
 have G:∀i,i<pin->mn M.bd i=some (.at_ i):=fun i hi=>(eL.trans Y).bd i i (afQ hi c1);refine⟨νb M.bd ν,⟨H.defers,?_,fun i=>?_,hHR⟩,⟨rfl,rfl,rfl,dh _,fun b _ hb=>⟨rfl,fun hb'=>hb (F.subL b hb')⟩,fun i hi=>?_⟩,by rw[z]; exact c1,fun i hi K=>?_⟩
 ·have:=H.len;simp only[di,fJ,LS];omega
 ·simp only[Vo];exact aau H.heap hL M Y F (fun k=>a.tmps.getD k undef) (fun k=>H.tmps k) i
 ·have hb:=G i hi;have f:=F.at_ i i hb
  cases r:lkB S.h i with
  |dead=>trivial
  |cells c=>rw[r] at f; exact⟨f,qR hb⟩
  |row t g fz xs =>
   rw[r] at f
   cases fz with
   |true=>exact⟨g,true,xs,f,dh _,fun _=>⟨qR hb,rfl⟩⟩
   |false =>
    have hg:=Vy c4 i hi t g xs r;exact⟨0,false,xs,f,by omega,fun _=>⟨qR hb,rfl⟩⟩
  |map k u es=>rw[r] at f; exact⟨⟨es,f⟩,qR hb⟩
  |acc t xs=>rw[r] at f; exact⟨xs,f⟩
 ·have f:=F.at_ i i (G i hi);rw[K] at f;exact f
end
end Go.Am
end

noncomputable section
namespace Go.Am
variable [Ghost]
section
variable {ρ:Type} {ν ν':Nat->Value} {h h':BY Blk} {w w':World} {P:Program}
def mh (w:World) (G:Nat->Prop) (t:Ty) (x:Val t) (v:Value):Prop:=∃us,CR w G t x us/\v=zi t us
def AT (w:World) (G:Nat->Prop):(l:BY Ty)->(t:Ty)->Val (tys t l)->BY Value->Prop
 |[],t,x,vs=>∃v,vs=[v]/\mh w G t x v
 |u::l,t,x,vs=>∃v b,vs=v::b/\mh w G t (x:Val t×Val (tys u l)).1 v/\AT w G l u (x:Val t×Val (tys u l)).2 b
def AL (w:World) (G:Nat->Prop):(l:BY Ty)->Val (tyL l)->BY Value->Prop
 |[],_,vs=>vs=[]
 |t::l,x,vs=>AT w G l t x vs
def RR (w:World) (G:Nat->Prop):(l:BY Ty)->Val (tyL l)->Value->Prop
 |[],_,u=>u=.tuple #[]
 |[t],x,u=>mh w G t x u
 |t::u'::l,x,u=>∃vs,u=.tuple vs/\AT w G (u'::l) t x vs.toList
def jq (P:Program) (f:Nat) (p:ă):Prop :=
 ∀(G:Nat->Prop) (x:Val (tyL p.ts)) (y:Val (tyL p.rs)),p.F x=some y->∀(w:World) (vals:BY Value),(∀b,G b->b<w.heap.size)->AL w G p.ts x vals ->
  (∃fn c,P.funcs[f]?=some fn/\fn.body=some c) /\
  CallsIn Fence.wide 0 P f vals.toArray w fun e w'=>∃u,e=.returned u/\RR w' G p.rs y u/\(∀b,b<w.heap.size->w'.heap[b]?=w.heap[b]?)/\w.heap.size<=w'.heap.size/\w'.os=w.os/\w'.tape=w.tape/\w'.output=w.output
def YL {a:AV} {vs:BY AV} (e:Ŝ a=some vs):mW a=vs:=by
 cases a<;>simp only[Ŝ,Option.some.injEq,reduceCtorEq] at e<;>exact e
def BG {G:Nat->Prop} {t:Ty} {x:Val t} {a:AV} {v:Value} {vs:BY AV} (d:(Vs a==t.isAgg)=true) (i:Ŝ a=some vs) (j:VR ν h w a v)
 (r:∀c∈mW a,∀u,VR1 ν h w c u->VRs w G (ā h c) u) (e:Û t (vs.map (ā h))=some x):mh w G t x v:=by
 have f:=j.cells i;have h2:Ĕ (VRs w G) (vs.map (ā h)) v.cells.toList:=Ĕ.map_left (aux vs _ f fun c o u k=>r c (by rw[YL i]; exact o) u k.1);refine⟨_,Ģ e h2,?_⟩
 cases ha:a.isAgg with
 |true =>
  cases a<;>try cases ha
  obtain⟨us,rfl,_⟩:=j
  have:t.isAgg=true:=by simpa[Vs] using d
  simp[zi,this,Value.cells]
 |false =>
  have s:Vs a=false:=by cases a<;>first|rfl|cases ha
  have m:t.isAgg=false:=by rw[s] at d; simpa using d
  have l:a.isTup=false:=by cases a<;>first|rfl|cases i
  have y:=(j.one ha l).oneCell i;simp[zi,m,RK y]
where
 aux {w:World} {G:Nat->Prop} {ν:Nat->Value} {h:BY Blk} (vs:BY AV) (us:BY Value) (f:Ĕ (VRc ν h w) vs us) (p:∀c∈vs,∀u,VRc ν h w c u->VRs w G (ā h c) u):Ĕ (fun c b=>VRs w G (ā h c) b) vs us:=by
  induction vs generalizing us with
  |nil=>cases us with
   |nil=>trivial
   |cons=>exact f.elim
  |cons c vs q=>cases us with
   |nil=>exact f.elim
   |cons u us=>exact⟨p c (by simp) u f.1,q us f.2 fun c o u k=>p c (by simp[o]) u k⟩
def Y3 (H:HR ν h w) {G:Nat->Prop} {t:Ty} {x:Val t} {a:AV} {v:Value} (l:VR ν h w a v)
 (A:∀c∈mW a,∀u,VR1 ν h w c u->VRs w G (ā h c) u) (hb:∀id cs,a=.box id 0->lkB h id=.cells cs->(∀b,Ŗ (ν id) b->¬G b)/\∀c∈cs,∀u,VR1 ν h w c u->VRs w G (ā h c) u) (e:amz h t a=some x):mh w G t x v:=by
 cases z:(match t with|.ptr _=>true|_=>false) with
 |false =>
  have f:(match Vs a==t.isAgg with|true=>(match Ŝ (aed h a) with|some cs=>Û t cs|none=>none)|false=>none)=some x:=by
   cases t<;>first|exact e|cases z
  split at f<;>try (cases f; done)
  rename_i q
  split at f<;>try (cases f; done)
  rename_i cs d;obtain⟨vs,k,rfl⟩:=Jr d;exact BG q k l A f
 |true =>
  cases t<;>try cases z
  rename_i u;simp only[amz] at e
  split at e<;>try (cases e; done)
  ·rename_i id
   split at e<;>try (cases e; done)
   rename_i cs B;obtain⟨K,b,k,h2,s⟩:=l.one rfl rfl;have C:=H.blk id;rw[B] at C;obtain⟨N,c,f,j,i,r⟩:=C;rw[h2] at j; cases j;obtain⟨J,d⟩:=hb id cs rfl B;have p:CR w G u x c.toList:=Ģ e (Ĕ.map_left (BG.aux cs _ r fun c I u E=>d c I u E.1));refine⟨[v],⟨b,0,c.toList,by rw[s],J b (by rw[h2]; rfl),ĥ i,p,CellsAt.of_cells i⟩,rfl⟩
  ·rename_i L y
   split at e<;>try (cases e; done)
   rename_i m _;subst m;cases e;have k:=A _ (by simp[mW]) v (l.one rfl rfl);obtain⟨b,o,us,h2,s,j,i,r⟩:=k;exact⟨[v],⟨b,o,us,by rw[h2]; rfl,s,j,i,r⟩,rfl⟩
def Sb (H:HR ν h w) {G:Nat->Prop}:∀(l:BY Ty) (t:Ty) (x:Val (tys t l)) (as:BY AV) (vs:BY Value),Ĕ (VR ν h w) as vs ->
 (∀a∈as,∀c∈mW a,∀u,VR1 ν h w c u->VRs w G (ā h c) u)->(∀a∈as,∀id cs,a=.box id 0->lkB h id=.cells cs->(∀b,Ŗ (ν id) b->¬G b)/\∀c∈cs,∀u,VR1 ν h w c u->VRs w G (ā h c) u)->Y0 h l t as=some x->AT w G l t x vs
 |[],t,x,[],vs,_,_,_,e=>by cases e
 |[],t,x,[a],vs,d,f,hb,e=>by
  obtain⟨v,rfl,k⟩:=d.one;exact⟨v,rfl,Y3 H k (f a (by simp)) (hb a (by simp)) e⟩
 |[],t,x,_::_::_,vs,_,_,_,e=>by cases e
 |u::l,t,x,[],vs,_,_,_,e=>by cases e
 |u::l,t,x,a::as,[],d,_,_,e=>d.elim
 |u::l,t,x,a::as,v::vs,d,f,hb,e=>by
  simp only[Y0] at e
  split at e<;>try (cases e; done)
  rename_i y j
  split at e<;>try (cases e; done)
  rename_i z i;cases e;exact⟨v,vs,rfl,Y3 H d.1 (f a (by simp)) (hb a (by simp)) j,Sb H l u z as vs d.2 (fun a ha=>f a (by simp[ha])) (fun a ha=>hb a (by simp[ha])) i⟩
def Je (H:HR ν h w) {G:Nat->Prop} {l:BY Ty} {x:Val (tyL l)} {as:BY AV} {vs:BY Value} (d:Ĕ (VR ν h w) as vs)
 (f:∀a∈as,∀c∈mW a,∀u,VR1 ν h w c u->VRs w G (ā h c) u) (hb:∀a∈as,∀id cs,a=.box id 0->lkB h id=.cells cs->(∀b,Ŗ (ν id) b->¬G b)/\∀c∈cs,∀u,VR1 ν h w c u->VRs w G (ā h c) u) (e:FX h l as=some x):AL w G l x vs:=by
 cases l with
 |nil=>cases as with
  |nil=>exact d.nil_left
  |cons=>cases e
 |cons t l=>exact Sb H l t x as vs d f hb e
def mh.mono {G G':Nat->Prop} (d:∀b,G' b->G b) {t:Ty} {x:Val t} {v:Value} (c:mh w G t x v):mh w G' t x v:=by
 obtain⟨us,e,h2⟩:=c;exact⟨us,CR.mono d e,h2⟩
def KL {av f:Nat->Prop}:∀{t:Ty} {x:Val t} {us:BY Value},(flat t x).all Dc=true->CR w av t x us->CR w f t x us
 |.unit,_,_,_,d=>d
 |.bool,_,_,_,d=>d
 |.int _,_,_,_,d=>d
 |.str,_,_,_,d=>d
 |.slice _,_,_,c,_=>by simp[flat,Dc] at c
 |.map _ _,_,_,c,_=>by simp[flat,Dc] at c
 |.ptr _,_,_,c,_=>by simp[flat,Dc] at c
 |.pair a b,x,us,c,d=>by
  simp only[flat,List.all_append,dg] at c;obtain⟨u1,u2,e,i,h2⟩:=d;exact⟨u1,u2,e,KL c.1 i,KL c.2 h2⟩
def ajk {t:Ty} {x:Val t} (b:plain (enc t x)=true):(flat t x).all Dc=true:=by
 cases t<;>first|exact b|(simp only[enc,plain,Dc] at b; simp[flat,Dc])|(simp[enc,plain,Dc] at b)
def mh.plain {G G':Nat->Prop} {t:Ty} {x:Val t} {v:Value} (c:plain (enc t x)=true) (b:mh w G t x v):mh w G' t x v:=by
 obtain⟨us,d,h2⟩:=b;exact⟨us,KL (ajk c) d,h2⟩
def AT.plain {G G':Nat->Prop}:∀{l:BY Ty} {t:Ty} {x:Val (tys t l)} {vs:BY Value},(ajl l t x).all Go.Am.plain=true->AT w G l t x vs->AT w G' l t x vs
 |[],t,x,vs,b,⟨v,c,h2⟩=>⟨v,c,h2.plain (by simpa[ajl] using b)⟩
 |u::l,t,x,vs,b,⟨v,vs',c,h2,d⟩=>by
  simp only[ajl,fV,dg] at b;exact⟨v,vs',c,h2.plain b.1,AT.plain b.2 d⟩
def ZO {v:AV} (b:v.isTup=false):Oc v=Go.Am.plain v:=by cases v<;>first|rfl|cases b
def KU {t:Ty} {x:Val t}:(enc t x).isTup=false:=by cases t<;>rfl
def RR.plain {G G':Nat->Prop}:∀{l:BY Ty} {x:Val (tyL l)} {u:Value},Oc (aci l x)=true->RR w G l x u->RR w G' l x u
 |[],_,_,_,h=>h
 |[t],x,u,b,h=>mh.plain ((ZO (KU (t:=t) (x:=x))).symm.trans b) h
 |t::u'::l,x,u,b,⟨vs,c,h2⟩=>⟨vs,c,h2.plain b⟩
def mh.VR {t:Ty} {x:Val t} {v:Value} (b:mh w (Av ν h) t x v):VR ν h w (enc t x) v:=by
 obtain⟨us,c,rfl⟩:=b;exact L1 c
def AT.VR:∀{l:BY Ty} {t:Ty} {x:Val (tys t l)} {vs:BY Value},AT w (Av ν h) l t x vs->Ĕ (VR ν h w) (ajl l t x) vs
 |[],t,x,_,⟨v,rfl,h2⟩=>⟨h2.VR,trivial⟩
 |u::l,t,x,_,⟨v,vs',rfl,h2,b⟩=>⟨h2.VR,AT.VR b⟩
def Rz:∀{l:BY Ty} {t:Ty} {x:Val (tys t l)},∀a∈ajl l t x,a.isTup=false
 |[],t,x,a,b=>by simp only[ajl,dq] at b; rw[b]; exact KU
 |u::l,t,x,a,b=>by
  simp only[ajl,dm] at b;rcases b with rfl|b
  ·exact KU
  ·exact Rz a b
def Ĕ.VR2:∀{as:BY AV} {vs:BY Value},Ĕ (VR ν h w) as vs->(∀a∈as,a.isTup=false)->Ĕ (VR2 ν h w) as vs
 |[],[],_,_=>trivial
 |a::as,v::vs,b,c=>⟨by rw[<-zc (c a (by simp))]; exact b.1,Ĕ.VR2 b.2 fun a ha=>c a (by simp[ha])⟩
 |[],_::_,b,_=>b.elim
 |_::_,[],b,_=>b.elim
def RR.VR:∀{l:BY Ty} {x:Val (tyL l)} {u:Value},RR w (Av ν h) l x u->VR ν h w (aci l x) u
 |[],_,_,h=>by cases h; exact⟨#[],rfl,trivial⟩
 |[t],x,u,h=>mh.VR h
 |t::u'::l,x,u,⟨vs,b,h2⟩=>⟨vs,b,Ĕ.VR2 h2.VR Rz⟩
def Jj (P:Program) (g:Nat) (ν:Nat->Value) (h:BY Blk) (w:World) (vals:BY Value) (K:AV->BY Blk->BE ρ) (r:ρ):Prop :=
 (∃fn c,P.funcs[g]?=some fn/\fn.body=some c) /\
 CallsIn Fence.wide 0 P g vals.toArray w fun e w'=>∃ν' h' v u,e=.returned u/\VR ν' h' w' v u/\HR ν' h' w'/\Ev h.length ν h w ν' h' w'/\h.length<=h'.length/\(∀j,j<h.length->lkB h j=.dead->lkB h' j=.dead)/\K v h'=some r
def ae2 {c:AV} {u:Value}:∀{as:BY AV} {h:BY Blk},HR ν h w->c∈as->Ow c=true->VR1 ν h w c u->VRs w (Av ν (C4 h as)) (ā h c) u
 |[],_,_,b,_,_=>by cases b
 |a::as,h,H,b,e,d=>by
  obtain⟨i,f,j⟩:=Rc H a;rcases dm.1 b with rfl|b
  ·exact VRs.mono ((FR as f).2.2) (Rb H d e)
  ·have:=ae2 (as:=as) f b e (d.ev i)
   rwa [Js] at this
def af0 {f:Nat} {p:ă} (V:jq P f p) {b:Bool} {d:BY AV} {K:AV->BY Blk->BE ρ} {r:ρ} (e:We b p h d K=some r) (H:HR ν h w) {vals:BY Value} (E:Ĕ (VR ν h w) d vals):Jj P f ν h w vals K r:=by
 unfold We at e
 split at e<;>try (cases e; done)
 rename_i x C;simp only[Æ] at e
 split at e<;>try (cases e; done)
 rename_i y T
 -- the call, with what may not be touched
 have call:∀(G:Nat->Prop),(∀b,G b->b<w.heap.size)->AL w G p.ts x vals->∀(h':BY Blk),HR ν h' w->Ev h.length ν h w ν h' w->h.length<=h'.length->(∀j,j<h.length->lkB h j=.dead->lkB h' j=.dead) ->
  (∀w' u,RR w' G p.rs y u->RR w' (Av ν h') p.rs y u)->K (aci p.rs y) h'=some r->Jj P f ν h w vals K r:=by
  intro G Z N h' B ev W q I Y;obtain⟨h1,h2⟩:=V G x y T w vals Z N;refine⟨h1,h2.mono fun e w' U=>?_⟩;obtain⟨u,rfl,g1,g2,g3,g4,g5,g6⟩:=U;obtain⟨O,R⟩:=B.grow g2 g3 g4 g5 g6 h.length;exact⟨ν,h',_,u,rfl,(I w' u g1).VR,R,ev.trans O (dh _),W,q,Y⟩
 split at e
 ·rename_i J;exact call (fun _=>False) (fun _ L=>L.elim) (Je H E (fun a _ c _ u m=>F8 H m) (fun _ _ _ _ _ _=>⟨fun _ _ L=>L,fun c _ u m=>F8 H m⟩) C) h H (Ev.refl _ _ _ _) (dh _) (fun _ _ hd=>hd) (fun w' u v=>v.plain J) e
 ·split at e
  ·rename_i z
   have i:∀a∈d,Sd a=false:=fun a ha=>by have:=dM.1 z a ha; simpa using this
   refine call (Av ν h) (fun b hb=>H.ltA hb) (Je H E (fun a ha c k u m=>?_) (fun a ha id cs o _=>?_) C) h H (Ev.refl _ _ _ _) (dh _) (fun _ _ hd=>hd) (fun w' u v=>v) e
   ·have s:FZ c=false:=by
     have:=i a ha
     cases a<;>first
      |(simp only[mW,dq] at k; subst k; exact this)
      |(simp only[mW] at k; simp only[Sd,ee] at this; simpa using this c k)
    have:ā h c=c:=by cases c<;>first|rfl|cases s
    rw[this]; exact m.data
   ·subst o; cases i _ ha
  ·split at e<;>try (cases e; done)
   rename_i A;simp only[gN,ft] at A;have l:∀a∈d,air a=true:=dM.1 A.2;obtain⟨ev,B,S⟩:=FR (d.flatMap mW) H;refine call (Av ν (C4 h (d.flatMap mW))) (fun b hb=>B.ltA hb) (Je H E (fun a ha c k u m=>?_) (fun a ha id cs o _=>?_) C) _ B ev (by rw[θ]; exact dh _) (fun _ _ hd=>Q9 _ hd) (fun w' u v=>v) e
   ·refine ae2 H (dG.2 ⟨a,ha,k⟩) ?_ m;have:=l a ha
    have s:aiq c=true:=by
     cases a<;>first
      |(simp only[mW,dq] at k; subst k; exact this)
      |(simp only[mW] at k; simp only[air,dM] at this; exact this c k)
    cases c<;>first|rfl|cases s
   ·subst o; cases l _ ha
end
end Go.Am
end

noncomputable section
namespace Go.Am
section
variable {w w':World} {X X':Nat->Prop}
structure amO (w:World) (X:Nat->Prop) (w':World) (X':Nat->Prop):Prop where
 size:w.heap.size<=w'.heap.size
 av:∀b,b<w.heap.size->¬X b->¬X' b
 dat:∀(b:Nat) (o:Obj),w.heap[b]?=some o->US o=true->¬X b->w'.heap[b]?=some o
def amb {w:World} {a:Addr} {v:Value} (h:w.cell? a=some v):∃o,w.heap[a.block]?=some o/\US o=true/\∀w':World,w'.heap[a.block]?=some o->w'.cell? a=some v:=by
 unfold World.cell? at h
 split at h<;>try (cases h; done)
 rename_i c e r hb;exact⟨_,hb,rfl,fun w' h'=>by unfold World.cell?; rw[h']; exact h⟩
def CellsAt.kx (K:amO w X w' X') {b off:Nat} {vs:BY Value} (hb:¬X b) (h:CellsAt w b off vs):CellsAt w' b off vs:=fun j v c=>by
 obtain⟨o,e,h2,d⟩:=amb (h j v c);exact d w' (K.dat b o e h2 hb)
def CR.kx (K:amO w X w' X'):∀{t:Ty} {x:Val t} {vs:BY Value},CR w X t x vs->CR w' X' t x vs
 |.unit,_,_,h=>h
 |.bool,_,_,h=>h
 |.int _,_,_,h=>h
 |.str,_,_,h=>h
 |.slice t,xs,vs,h=>by
  obtain⟨base,cap,e,s,h⟩:=h;refine⟨base,cap,e,s,?_⟩;rcases h with h|⟨b,off,hb,c,d,h⟩
  ·exact .inl h
  ·refine .inr ⟨b,off,hb,K.av b d c,dC d K.size,fun i x j=>?_⟩;obtain⟨us,f,h2⟩:=h i x j;exact⟨us,CR.kx K f,h2.kx K c⟩
 |.map k v,es,vs,h=>by
  obtain⟨r,e,h⟩:=h;refine⟨r,e,?_⟩;rcases h with h|⟨b,entries,clock,q,c,l,p,h⟩
  ·exact .inl h
  ·refine .inr ⟨b,entries,clock,q,K.av b (ĥ l) c,K.dat b _ l rfl c,p,fun i x j=>?_⟩;obtain⟨m,us,f,h2,y,u⟩:=h i x j;exact⟨m,us,f,CR.kx K h2,CR.kx K y,u⟩
 |.ptr t,x,vs,h=>by
  obtain⟨b,off,us,e,c,d,f,h2⟩:=h;exact⟨b,off,us,e,K.av b d c,dC d K.size,CR.kx K f,h2.kx K c⟩
 |.pair a b,x,vs,h=>by
  obtain⟨us,o,e,f,h2⟩:=h;exact⟨us,o,e,CR.kx K f,CR.kx K h2⟩
end
section
variable {g:Ghost} {G':Nat->Prop} {D:BY Deferred} {Q:BE Nat} {M:Nat} {ν:Nat->Value} {h:BY Blk} {w w':World}
structure ng (g:Ghost) (ν:Nat->Value) (h:BY Blk) (w:World) (G':Nat->Prop) (w':World):Prop where
 os:w'.os=w.os
 tape:w'.tape=w.tape
 output:w'.output=w.output
 size:w.heap.size<=w'.heap.size
 av:∀b,b<w.heap.size->¬@Av g ν h b->¬G' b
 dat:∀(b:Nat) (o:Obj),w.heap[b]?=some o->US o=true->(@Av g ν h b->F3 ν h b)->w'.heap[b]?=some o
 nd:∀(b:Nat) (o:Obj),w.heap[b]?=some o->US o=false->b<g.B->w'.heap[b]?=some o
def ng.kx (K:ng g ν h w G' w'):amO w (@Av g ν h) w' (@Av (g.re G' D Q M) ν h) :=
 ⟨K.size,fun b hb c d=>d.elim (fun f=>c (.inl f)) (K.av b hb c),fun b o hb e c=>K.dat b o hb e fun d=>absurd d c⟩
def VR0.step (K:ng g ν h w G' w') {a:AV} {v:Value} (c:@VR0 g ν h w a v):@VR0 (g.re G' D Q M) ν h w' a v:=by
 cases a with
 |slc t xs=>exact CR.kx (ng.kx (D:=D) (Q:=Q) (M:=M) K) (t:=.slice t) c
 |mp k t es=>exact CR.kx (ng.kx (D:=D) (Q:=Q) (M:=M) K) (t:=.map k t) c
 |eptr t x off =>
  obtain⟨b,o,us,j,h2,e,i,f⟩:=c;have d:=ng.kx (D:=D) (Q:=Q) (M:=M) K;exact⟨b,o,us,j,d.av b e h2,dC e K.size,CR.kx d i,f.kx d h2⟩
 |_=>exact c
def VR1.step (K:ng g ν h w G' w') {a:AV} {v:Value} (b:@VR1 g ν h w a v):@VR1 (g.re G' D Q M) ν h w' a v:=by
 cases c:a.isFn with
 |true =>
  cases a<;>try cases c
  obtain⟨fs,cs,e,h2,d⟩:=b;exact⟨fs,cs,e,h2.mono fun _ _=>VR0.step K,d.mono fun _ _=>VR0.step K⟩
 |false =>
  rw[@yU (g.re G' D Q M) _ _ _ _ _ c];rw[@yU g _ _ _ _ _ c] at b;exact VR0.step K b
def VRc.step (K:ng g ν h w G' w') {a:AV} {v:Value} (b:@VRc g ν h w a v):@VRc (g.re G' D Q M) ν h w' a v:=⟨VR1.step K b.1,b.2⟩
def VR2.step (K:ng g ν h w G' w') {a:AV} {v:Value} (b:@VR2 g ν h w a v):@VR2 (g.re G' D Q M) ν h w' a v:=by
 cases c:a.isAgg with
 |true =>
  cases a<;>try cases c
  obtain⟨vs,d,h2⟩:=b;exact⟨vs,d,h2.mono fun _ _=>VRc.step K⟩
 |false =>
  rw[@BJ (g.re G' D Q M) _ _ _ _ _ c];rw[@BJ g _ _ _ _ _ c] at b;exact VR1.step K b
def VR.step (K:ng g ν h w G' w') {a:AV} {v:Value} (b:@VR g ν h w a v):@VR (g.re G' D Q M) ν h w' a v:=by
 cases c:a.isTup with
 |true =>
  cases a<;>try cases c
  obtain⟨vs,d,h2⟩:=b;exact⟨vs,d,h2.mono fun _ _=>VR2.step K⟩
 |false =>
  rw[@zc (g.re G' D Q M) _ _ _ _ _ c];rw[@zc g _ _ _ _ _ c] at b;exact VR2.step K b
def HR.step (K:ng g ν h w G' w') (G:∀b,G' b->b<w'.heap.size) (E:∀b,F3 ν h b->¬G' b) (H:@HR g ν h w):@HR (g.re G' D Q M) ν h w':=by
 have B:amO w (@Av g ν h) w' (@Av (g.re G' D Q M) ν h):=ng.kx K;have live:∀(id b:Nat) (o:Obj),(lkB h id).live=true->Ŗ (ν id) b->w.heap[b]?=some o->US o=true->w'.heap[b]?=some o:=fun id b o l C hb hd=>K.dat b o hb hd fun _=>⟨id,l,C⟩;refine @HR.mk (g.re G' D Q M) ν h w' (fun id=>?_) (@HR.inj g _ _ _ H) G (fun id b l hb=>E b ⟨id,l,hb⟩);have p:=@HR.blk g _ _ _ H id;have d:=live id
 cases l:lkB h id with
 |dead=>trivial
 |cells cs =>
  rw[l] at p d;obtain⟨b,c,e,j,h2,q⟩:=p;exact⟨b,c,e,j,d b _ rfl (by rw[j]; rfl) h2 rfl,q.mono fun _ _=>VRc.step K⟩
 |row t g' fz xs =>
  rw[l] at p d
  cases fz with
  |true=>exact CR.kx B (t:=.slice t) p
  |false =>
   obtain⟨base,cap,j,h2,q⟩:=p;refine⟨base,cap,j,h2,?_⟩;rcases q with q|⟨b,off,c,e,u,I,R,O⟩
   ·exact .inl q
   ·have A:=d b _ rfl (by rw[j,u]; rfl) I rfl;refine .inr ⟨b,off,c,e,u,A,R,fun i x z=>?_⟩;obtain⟨us,y,s⟩:=O i x z;exact⟨us,CR.kx B y,s.keep (A.trans I.symm)⟩
 |map k v es =>
  rw[l] at p d;obtain⟨b,f,r,j,h2,q,u⟩:=p;refine⟨b,f,r,j,d b _ rfl (by rw[j]; rfl) h2 rfl,q,fun i x z=>?_⟩;obtain⟨m,us,y,s,L,J⟩:=u i x z;exact⟨m,us,y,CR.kx B s,CR.kx B L,J⟩
 |acc t xs =>
  rw[l] at p d;obtain⟨us,j,h2,q,u⟩:=p;refine⟨us,j,fun b hb=>?_,q,?_⟩
  ·obtain⟨o,y,s⟩:=h2 b hb;exact⟨o,d b o rfl hb y s,s⟩
  ·refine g.st _ _ _ _ _ _ u ⟨K.os,K.tape,K.output,K.size,B.av,fun b o hb C z=>K.dat b o hb C fun N=>⟨id,by rw[l]; rfl,z N⟩,K.nd⟩
def HR.re (H:@HR g ν h w):@HR (g.re g.G D Q M) ν h w:=@HR.mk (g.re g.G D Q M) ν h w (@HR.blk g ν h w H) (@HR.inj g ν h w H) (@HR.ghlt g ν h w H) (@HR.ghne g ν h w H)
def HR.er (H:@HR (g.re g.G D Q M) ν h w):@HR g ν h w:=@HR.mk g ν h w (@HR.blk (g.re g.G D Q M) ν h w H) (@HR.inj (g.re g.G D Q M) ν h w H) (@HR.ghlt (g.re g.G D Q M) ν h w H) (@HR.ghne (g.re g.G D Q M) ν h w H)
def ng.less {G':Nat->Prop} (e:∀b,G' b->g.G b):ng g ν h w G' w:=⟨rfl,rfl,rfl,dh _,fun b _ c d=>c (.inr (e b d)),fun b o hb _ _=>hb,fun b o hb _ _=>hb⟩
def ng.nds (c:w'.os=w.os) (f:w'.tape=w.tape) (j:w'.output=w.output) (i:w.heap.size<=w'.heap.size) (e:∀(b:Nat) (o:Obj),w.heap[b]?=some o->US o=true\/b<g.B->w'.heap[b]?=some o):ng g ν h w g.G w' :=
 ⟨c,f,j,i,fun b _ k l=>k (.inr l),fun b o hb hd _=>e b o hb (.inl hd),fun b o hb _ d=>e b o hb (.inr d)⟩
end
end Go.Am
end

noncomputable section
namespace Go.Am
variable [Ghost]
section
variable {ρ:Type} {ν ν':Nat->Value} {h h':BY Blk} {w w':World} {P:Program}
def UU {v b:AV} (e:alw v=some b):b=v/\v.isTup=false:=by
 cases v<;>simp only[alw,Option.some.injEq,reduceCtorEq] at e<;>exact⟨e.symm,rfl⟩
def afX {S:St} {a:Act} (H:Sim ν S a w) {rv:ResultVar} {v:AV} (e:acu P S.h S.t rv=some v) :
 ∃u,(match rv with|.tmp t=>(pure (a.tmps.getD t undef):Sem Value)|.cell x t=>do loadVar t (<-asAddr (a.tmps.getD x undef))).run P w=.ok u w/\VR2 ν S.h w v u:=by
 cases rv with
 |tmp i =>
  obtain⟨rfl,d⟩:=UU e;have:=H.tmps i;rw[zc d] at this;exact⟨_,rfl,this⟩
 |cell x t =>
  simp only[acu] at e
  split at e<;>try (cases e; done)
  rename_i j f;obtain⟨rfl,d⟩:=UU e;obtain⟨u,b,h2⟩:=aiO H.heap f (H.tmps x);rw[zc d] at h2;refine⟨u,?_,h2⟩;simp only[Instr.loadAt] at b
  cases c:a.tmps.getD x undef with
  |pointer p =>
   rw[c] at b
   cases p with
   |none=>simp[Instr.sureAddr] at b
   |some k =>
    show(do loadVar t (<-asAddr (a.tmps.getD x undef)):Sem Value).run P w=_;rw[c];simpa[Instr.sureAddr,asAddr] using b
  |_=>rw[c] at b; simp[Instr.sureAddr] at b
def Ur {S:St} {a:Act} (H:Sim ν S a w):∀{rs:BY ResultVar} {vs:BY AV},N5 P S.h S.t rs=some vs ->
 ∃us:BY Value,(rs.mapM (m:=Sem) fun|.tmp t=>pure (a.tmps.getD t undef)|.cell x t=>do loadVar t (<-asAddr (a.tmps.getD x undef))).run P w=.ok us w/\Ĕ (VR2 ν S.h w) vs us
 |[],vs,e=>by cases e; exact⟨[],rfl,trivial⟩
 |rv::rs,vs,e=>by
  simp only[N5] at e
  split at e<;>try (cases e; done)
  rename_i v d
  split at e<;>try (cases e; done)
  rename_i c b;cases e;obtain⟨u,j,h2⟩:=afX H d;obtain⟨us,i,f⟩:=Ur H b;refine⟨u::us,?_,h2,f⟩;simp only[List.mapM_cons,Sem.run_bind,Sem.run_pure];rw[j];simp only[Result.andThen_ok];rw[i];rfl
def VR2.up {v:AV} {u:Value} (b:VR2 ν h w v u):VR ν h w v u:=by
 cases c:v.isTup with
 |true =>
  cases v<;>try cases c
  exact b.elim
 |false=>rw[zc c]; exact b
def Uq {S:St} {a:Act} {fn:Func} {v:AV} (H:Sim ν S a w) (e:vg P fn S=some v):∃u,(results fn a.tmps).run P w=.ok u w/\VR ν S.h w v u:=by
 unfold vg at e
 cases c:N5 P S.h S.t fn.results.toList with
 |none=>rw[c] at e; cases e
 |some vs =>
  obtain⟨us,d,h2⟩:=Ur H c
  have b:(results fn a.tmps).run P w=.ok (if h:us.toArray.size=1 then us.toArray[0] else .tuple us.toArray) w:=by
   unfold results;rw[Sem.run_bind,Array.mapM_eq_mapM_toList,Sem.run_map]
   erw [d]
   rfl
  rw[c] at e
  rcases vs with _|⟨x,_|⟨y,l⟩⟩<;>rcases us with _|⟨u,_|⟨u',m⟩⟩
  ·cases e; exact⟨_,b,⟨#[],by simp,trivial⟩⟩
  ·exact h2.elim
  ·exact h2.elim
  ·exact h2.elim
  ·cases e; exact⟨_,b,h2.1.up⟩
  ·exact h2.2.elim
  ·exact h2.elim
  ·exact h2.2.elim
  ·cases e; exact⟨_,b,⟨(u::u'::m).toArray,by simp,h2⟩⟩
def Ĕ.lk {R:AV->Value->Prop} (b:∀u,R .any u):∀{l:BY AV} {m:BY Value} (i:Nat),Ĕ R l m->R (Am.lk l i) (m.getD i undef)
 |[],[],i,_=>b _
 |_::_,_::_,0,h=>h.1
 |_::_,_::_,i+1,h=>by simpa[Am.lk] using Ĕ.lk b i h.2
 |[],_::_,_,h=>h.elim
 |_::_,[],_,h=>h.elim
def afa (h:Ghost.Q=none):fen=Fence.wide:=by
 unfold fen;rw[h];rfl
omit [Ghost] in
def ur {F:Fence} {n:Nat} {fn:Func} {tmps:Array Value} {R:Ending->World->Prop}:∀(ms:BY Nat) (w:World),ms.Nodup->(∀k∈ms,w.heap[k]?=some (.deferred (some []))) ->
 (∀w':World,w'.heap.size=w.heap.size->w'.os=w.os->w'.tape=w.tape->w'.output=w.output->(∀b,b∉ms->w'.heap[b]?=w.heap[b]?)->LeavesIn F n P fn tmps R [] .returning w')->LeavesInM F n P fn tmps R (ms.map mk1) .returning w
 |[],w,_,_,h=>h w rfl rfl rfl rfl fun _ _=>rfl
 |k::ms,w,p,c,h=>by
  refine⟨by simp,.inl ⟨k,_,rfl,run_takeDeferred (c k (.head _)),?_⟩⟩;obtain⟨r,h2⟩:=fD.1 p;refine ur ms _ h2 (fun j d=>?_) fun w' o m l i f=>h w' (by rw[o]; simp[World.putObj]) m l i fun b hb=>?_
  ·rw[World.putObj_heap_other (fun e=>r (by rw[<-e]; exact d))];exact c j (.tail _ d)
  ·rw[f b fun q=>hb (.tail _ q)];exact World.putObj_heap_other fun e=>hb (by rw[e]; exact .head _)
omit [Ghost] in
def yA {g:Ghost} {E:Env ρ} {call:BY Nat->Bool->Nat->BY AV->BY Blk->(AV->BY Blk->BE ρ)->BE ρ} {N:Nat} (hE:∀M,@nh (g.re g.G [] none M) ρ E N call) (hD:∀M,@wP (g.re g.G [] none M) ρ E N call) {path:BY Nat} (s:path.length+2=N) {f:Nat} {d:BY AV} {K:AV->BY Blk->BE ρ} {r:ρ}
 (hL:∀M fn c,E.P.funcs[f]?=some fn->fn.body=some c->∀x∈ß 0 c,@uG (g.re g.G [] none M) ρ E path f x.1 x.2)
 (e:wI E call path f d h K=some r) {vals:BY Value} (H:@HR g ν h w) (hB:g.B<=w.heap.size) (p:Ĕ (@VR g ν h w) d vals) :
 (∃fn c,E.P.funcs[f]?=some fn/\fn.body=some c) /\
 CallsIn Fence.wide 0 E.P f vals.toArray w fun e w'=>∃ν' h' v u,e=.returned u/\@VR g ν' h' w' v u/\@HR g ν' h' w'/\Ev h.length ν h w ν' h' w'/\h.length<=h'.length/\(∀j,j<h.length->lkB h j=.dead->lkB h' j=.dead)/\K v h'=some r:=by
 unfold wI at e
 split at e<;>try (cases e; done)
 rename_i fn y
 split at e<;>try (cases e; done)
 rename_i c Z;refine⟨⟨fn,c,y,Z⟩,?_⟩
 letI g':Ghost:=g.re g.G [] none w.heap.size
 refine callsIn_of_wp_marks y Z trivial ?_;have C:=p.length
 have hS:Sim ν {t:=d++List.replicate (fn.ntmps-d.length) .any,h:=h} {tmps:=vals.toArray++Array.replicate (fn.ntmps-vals.toArray.size) undef,defers:=[]} w:=by
  refine⟨⟨⟨[],rfl,gH,fun _ h=>(by cases h)⟩,fun l I=>(by cases I),hB,dh _⟩,by simp[C],fun i=>?_,HR.re H⟩;simp only[Vo];rcases dv i d.length with hi|hi
  ·have:=Ĕ.lk (R:=@VR g ν h w) (fun _=>trivial) i p
   have U:i<vals.length:=by omega
   have h2:(vals.toArray++Array.replicate (fn.ntmps-vals.toArray.size) undef).getD i undef=vals.getD i undef:=by
    simp[eM,gg,U]
   rw[h2]; exact this
  ·rw[alC _ _ hi]; trivial
 have J:=ww (hE _) (hD _) s c 0 _ _ ν _ w (hL _ fn c y Z) e hS (dh _);rw[afa rfl] at J;refine wpIn_mono J fun x O w' ha=>?_;obtain⟨ν',L,A,h2,h3,h4,m⟩:=ha
 have fin:∀v,vg E.P fn L=some v->K v L.h=some r->LeavesInM Fence.wide 0 E.P fn O.tmps (fun e w'=>∃ν' h' v u,e=.returned u/\@VR g ν' h' w' v u/\@HR g ν' h' w'/\Ev h.length ν h w ν' h' w'/\h.length<=h'.length/\(∀j,j<h.length->lkB h j=.dead->lkB h' j=.dead)/\K v h'=some r) O.defers .returning w':=by
  intro v U Y;obtain⟨⟨ms,m1,m2,T⟩,_,m4,m5⟩:=A.defers;rw[show O.defers=ms.map mk1 from m1.trans (dB _)];refine ur ms w' m2 (fun k Y=>(T k Y).1) fun w2 q1 q2 q3 q4 q5=>?_
  have W:∀(b:Nat) (o:Obj),w'.heap[b]?=some o->US o=true\/b<g'.B->w2.heap[b]?=some o:=fun b o hb hd=>by
   have z:b∉ms:=fun V=>by
    obtain⟨m6,S⟩:=T b V;rw[m6] at hb; cases hb;rcases hd with hd|hd
    ·cases hd
    ·have:g'.B<=w.heap.size:=hB;have S:w.heap.size<=b:=S;omega
   rw[q5 b z]; exact hb
  have KG:ng g' ν' L.h w' g'.G w2:=ng.nds q2 q3 q4 (by omega) W;have q:Sim ν' L {O with defers:=[]} w2:=⟨⟨⟨[],rfl,gH,fun _ h=>(by cases h)⟩,fun l I=>(by cases I),hB,by rw[q1]; exact m5⟩,A.len,fun i=>VR.step (g:=g') (D:=[]) (Q:=none) (M:=w.heap.size) KG (A.tmps i),HR.step (g:=g') (D:=[]) (Q:=none) (M:=w.heap.size) KG (fun b hb=>by have:=A.heap.ghlt b hb; omega) (fun b ⟨id,I,ho⟩=>A.heap.ghne id b I ho) A.heap⟩;obtain⟨u,r1,r2⟩:=Uq q U;refine⟨u,r1,ν',L.h,v,u,rfl,r2,HR.er q.heap,⟨q2.trans h2.os,q3.trans h2.tape,q4.trans h2.output,by rw[q1]; exact h2.size,fun b hb hn=>?_,h2.blk⟩,h3,h4,Y⟩;obtain⟨e1,e2⟩:=h2.keep b hb hn;refine⟨?_,e2⟩
  have z:b∉ms:=fun V=>by
   have S:w.heap.size<=b:=(T b V).2;omega
  rw[q5 b z]; exact e1
 cases x with
 |normal =>
  simp only at m
  split at m<;>try (cases m; done)
  exact fin _ ‹_› m
 |ret =>
  simp only at m
  split at m<;>try (cases m; done)
  exact fin _ ‹_› m
 |exit id=>cases m
 |goto l=>cases m
 |panic ch=>cases m
 |outgrown=>cases m
def ahf (P:Program) (f:Nat) (X:BY Blk->BY AV->(AV->BY Blk->BE ρ)->BE ρ):Prop :=
 ∀(h:BY Blk) (b:BY AV) (K:AV->BY Blk->BE ρ) (r:ρ),X h b K=some r->∀ν w vals,HR ν h w->Ĕ (VR ν h w) b vals->Jj P f ν h w vals K r
structure Jh (E:Env ρ):Prop where
 pure:∀f p,E.pure f=some p->jq E.P f p
 sort:∀f,E.sort f=true->∀(h:BY Blk) (x:AV) (K:AV->BY Blk->BE ρ) (r:ρ),VY h x K=some r->∀ν w u,HR ν h w->VR ν h w x u->Jj E.P f ν h w [u] K r
 compact:∀f,E.compact f=true->∀(h:BY Blk) (x:AV) (K:AV->BY Blk->BE ρ) (r:ρ),qy h x K=some r->∀ν w u,HR ν h w->VR ν h w x u->Jj E.P f ν h w [u] K r
 plain : ∀ (f : Nat) (fn : Func), E.P.funcs[f]? = some fn -> (fn.name == "runtime.NumGoroutine") = false
 clone:Lb E.P E.clone
 joins:afF E
 yld:lz E
 ext:∀f X,E.ext f=some X->ahf E.P f X
omit [Ghost] in
def ajO {E:Env ρ} (n:Nat):(∀f p,E.pure f=some p->∀path c b h K,ť E (n+1) path c f b h K=We (c&&!E.fz f) p h b K) /\
 (∀f,E.pure f=none->E.sort f=true->∀path c b h K,ť E (n+1) path c f b h K=match b with|[x]=>VY h x K|_=>none) /\
 (∀f,E.pure f=none->E.sort f=false->E.compact f=true->∀path c b h K,ť E (n+1) path c f b h K=match b with|[x]=>qy h x K|_=>none) :=
 ⟨fun f p d path c b h K=>by simp only[ť,d],fun f d e path c b h K=>by simp only[ť,d,e]; rfl,fun f d e i path c b h K=>by simp only[ť,d,e,i]; rfl⟩
omit [Ghost] in
def sl {E:Env ρ} (i:∀[Ghost],lz E->Jh E) (hdraw:∀[Ghost] L call,nh E L call->wP E L call)
 (hloops:∀n,n<=10->(∀[Ghost],lz E->nh E (22-2*n) (ť E n))->∀[Ghost],lz E->∀(path:BY Nat) (f:Nat) (fn:Func) (c:Code),path.length+2=22-2*n->E.P.funcs[f]?=some fn->fn.body=some c->∀x∈ß 0 c,uG E path f x.1 x.2) :
 ∀n,n<=10->∀[Ghost],lz E->nh E (22-2*n) (ť E n):=by
 intro n
 induction n with
 |zero=>exact fun _ _ l=>⟨.inl fun _ _ _ _ _ _=>rfl,fun path q g m h K r _ e=>(by cases e),(i l).plain,(i l).clone,(i l).joins,l⟩
 |succ n v =>
  intro O k l;have hE:∀[Ghost],lz E->nh E (22-2*n) (ť E n):=v (by omega);have b:=i l;refine⟨.inr (ajO n),fun path q g m h K r N e ν w vals H C d=>?_,b.plain,b.clone,b.joins,l⟩;simp only[ť] at e
  split at e
  ·rename_i J z;exact af0 (b.pure g J z) e H d
  ·split at e
   ·rename_i y
    split at e<;>try (cases e; done)
    rename_i x;obtain⟨u,rfl,s⟩:=d.one;exact b.sort g y h x K r e ν w u H s
   ·split at e
    ·rename_i A
     split at e<;>try (cases e; done)
     rename_i x;obtain⟨u,rfl,s⟩:=d.one;exact b.compact g A h x K r e ν w u H s
    ·split at e
     ·rename_i X B;exact b.ext g X B h m K r e ν w vals H d
     split at e<;>try (cases e; done)
     split at e<;>try (cases e; done)
     have j:path.length+2=22-2*n:=by omega
     have o:∀M,@lz (k.re k.G [] none M) ρ E:=fun _=>l;have p:∀M,@nh (k.re k.G [] none M) ρ E (22-2*n) (ť E n):=fun M=>@hE (k.re k.G [] none M) (o M);exact yA p (fun M=>@hdraw (k.re k.G [] none M) _ _ (p M)) j (fun M fn c I h2=>@hloops n (by omega) hE (k.re k.G [] none M) (o M) path g fn c j I h2) e H C d
end
end Go.Am
end

noncomputable section
namespace Go.Am
variable [Ghost]
section
variable {ρ:Type} {P:Program} {h h2:BY Blk} {t t2:BY AV}
def pv (h h2:BY Blk) (v:AV):Prop:=∀id∈refs2 h v,lkB h2 id=lkB h id
def pv.one {v:AV} (b:pv h h2 v):∀id∈refs1 v,lkB h2 id=lkB h id:=fun id hi=>b id (by simp only[refs2,dl]; exact .inl hi)
def pv.refs {v:AV} (d:pv h h2 v):refs2 h2 v=refs2 h v:=by
 simp only[refs2]
 have:∀(l:BY Nat),(∀id∈l,lkB h2 id=lkB h id)->(l.flatMap fun id=>(RL (lkB h2 id)).flatMap ŋ)=l.flatMap fun id=>(RL (lkB h id)).flatMap ŋ:=by
  intro l
  induction l with
  |nil=>intro _; rfl
  |cons x l c=>intro b; simp only[dF]; rw[b x (by simp),c fun id hi=>b id (by simp[hi])]
 rw[this _ d.one]
def qE {v:AV} (b:∀id∈ŋ v,lkB h2 id=lkB h id):ā h2 v=ā h v:=by
 cases v<;>first
  |rfl
  |(simp only[ā]; rw[b _ (by simp[ŋ])])
def NZ {v:AV} (d:∀id∈refs1 v,lkB h2 id=lkB h id):aed h2 v=aed h v:=by
 have one:(∀id∈ŋ v,lkB h2 id=lkB h id)->ā h2 v=ā h v:=qE
 cases v with
 |agg cs =>
  simp only[aed,AV.agg.injEq];exact fo fun c e=>qE fun id hi=>d id (dG.2 ⟨c,e,hi⟩)
 |fn f a b=>exact one fun _ hi=>by cases hi
 |_=>exact one d
def agh {ty:TypeId} {a:AV} (b:∀id∈refs1 a,lkB h2 id=lkB h id) (K:AV->BE ρ):T6 P h2 ty a K=T6 P h ty a K:=by
 cases a<;>first
  |rfl
  |(simp only[T6]; rw[b _ (by simp[refs1,ŋ])])
def acq {o:Nat} {a:AV} (b:∀id∈refs1 a,lkB h2 id=lkB h id) (K:AV->BE ρ):C9 h2 a o K=C9 h a o K:=by
 cases a<;>first
  |rfl
  |(simp only[C9]; rw[b _ (by simp[refs1,ŋ])])
def adf {sz:Nat} {a i:AV} (b:∀id∈refs1 a,lkB h2 id=lkB h id) (K:AV->BE ρ):Iv sz h2 a i K=Iv sz h a i K:=by
 cases i<;>try rfl
 cases a<;>first
  |rfl
  |(simp only[Iv]; rw[b _ (by simp[refs1,ŋ])])
def aiV {d:BE TypeDesc} {a:AV} (b:∀id∈refs1 a,lkB h2 id=lkB h id) (K:AV->BE ρ):alE d h2 a K=alE d h a K:=by
 unfold alE
 split<;>cases a<;>first
  |rfl
  |(simp only[]; rw[b _ (by simp[refs1,ŋ])])
def abf {ty:TypeId} {m i:AV} {ok:Bool} (b:∀id∈refs1 m,lkB h2 id=lkB h id) (K:AV->BE ρ):uT P h2 ty m i ok K=uT P h ty m i ok K:=by
 unfold uT
 have:ā h2 m=ā h m:=qE fun id hi=>b id (by cases m<;>first|exact hi|simp[ŋ] at hi)
 rw[this]
def Lg {σ:Type} {sz:Nat} {a:AV} {lo hi:BE AV} (K:AV->BY Blk->BE σ):sM sz h a lo hi false K=(sM sz h a lo hi false fun v _=>some v).bind fun v=>K v h:=by
 unfold sM;dsimp only
 (repeat' split)<;>rfl
def aco {sz:Nat} {a:AV} {lo hi:BE AV} (b:∀id∈refs1 a,lkB h2 id=lkB h id):∃φ:BE AV,(∀{σ:Type} (K:AV->BY Blk->BE σ),sM sz h a lo hi false K=φ.bind fun v=>K v h)/\∀{σ:Type} (K:AV->BY Blk->BE σ),sM sz h2 a lo hi false K=φ.bind fun v=>K v h2:=by
 refine⟨sM sz h a lo hi false fun v _=>some v,fun K=>?_,fun K=>?_⟩
 ·exact Lg K
 ·rw[Lg K];congr 1
  cases a<;>first
   |rfl
   |(simp only[sM]; rw[b _ (by simp[refs1,ŋ])])
def ap (nid:Nat) (b:BE Blk) (h:BY Blk):BY Blk:=match b with|none=>h|some B=>Ď h nid B
def pbind {α σ σ2:Type} {R:BE σ->BE σ2->Prop} (h0:R none none) {x:BE α} {K:α->BE σ} {K2:α->BE σ2} (h:∀a,R (K a) (K2 a)):R (x.bind K) (x.bind K2):=by
 cases x with
 |none=>exact h0
 |some a=>exact h a
def pb2 {α σ σ2:Type} {R:BE σ->BE σ2->Prop} (h0:R none none) {x:BE α} {K:α->BE σ} {K2:α->BE σ2} {z:BE σ} {b:BE σ2} (c:z=x.bind K) (h2:b=x.bind K2) (h:∀a,R (K a) (K2 a)):R z b:=by
 subst c h2; exact pbind h0 h
def OG {l:BY Operand} (b:∀x∈l,ev t2 x=ev t x):l.map (ev t2)=l.map (ev t):=fo b
def aiB {l:BY (Nat×Operand)} (b:∀x∈l.map (·.2),ev t2 x=ev t x):(l.map fun p=>(p.1,ev t2 p.2))=l.map fun p=>(p.1,ev t p.2):=fo fun p c=>by rw[b p.2 (dH.2 ⟨p,c,rfl⟩)]
def Up {ty:Ty}:∀{ps:BY (Nat×AV)} {n:Nat},(∀p∈ps,∀id∈refs1 p.2,lkB h2 id=lkB h id)->Sr h2 ty n ps=Sr h ty n ps
 |[],_,_=>rfl
 |(i,v)::ps,n,b=>by
  simp only[Sr];rw[NZ (b (i,v) (by simp)),Up fun q c=>b q (by simp[c])]
def amW {σ σ2:Type} {R:BE σ->BE σ2->Prop} {E:Env ρ} {o:Op} {nid:Nat} {K:AV->St->BE σ} {K2:AV->St->BE σ2} (h0:R none none) (z:cls E o<=1) (G:Vr o=false)
 (d:∀x∈o.operands.toList,ev t2 x=ev t x) (C:cls E o=1->∀x∈o.operands.toList,∀id∈refs1 (ev t x),lkB h2 id=lkB h id)
 (J:∀v I,(I.isSome=true->Ė E.clone o=true)->R (K v {t:=t,h:=ap nid I h}) (K2 v {t:=t2,h:=ap nid I h2})) :
 R (opK P {t:=t,h:=h} nid false o K) (opK P {t:=t2,h:=h2} nid false o K2):=by
 have k:∀v,R (K v {t:=t,h:=h}) (K2 v {t:=t2,h:=h2}):=fun v=>J v none (by simp);have ha:Ė E.clone o=true->∀v B,R (K v {t:=t,h:=Ď h nid B}) (K2 v {t:=t2,h:=Ď h2 nid B}):=fun al v B=>J v (some B) fun _=>al
 cases o with
 |move x =>
  have e:=d x (by simp[Op.operands]);simp only[opK,e]; exact k _
 |assign x =>
  have e:=d x (by simp[Op.operands]);simp only[opK,e]; exact k _
 |pick c a b =>
  have p:=d c (by simp[Op.operands]);have u:=d a (by simp[Op.operands]);have T:=d b (by simp[Op.operands]);simp only[opK,p,u,T]
  (repeat' split)<;>first|exact h0|exact k _
 |box _ x =>
  have e:=d x (by simp[Op.operands]);simp only[opK,e]
  (repeat' split)<;>first|exact h0|exact ha rfl _ _
 |alloc e =>
  simp only[opK]
  (repeat' split)<;>first|exact h0|exact ha rfl _ _
 |build ty ps =>
  have e:=aiB (l:=ps.toList) (t:=t) (t2:=t2) fun x q=>d x (by simpa[Op.operands] using q);simp only[opK,e]
  (repeat' split)<;>first|exact h0|exact k _
 |buildSlice ty n ps=>exact absurd z (by decide:¬2<=1)
 |load ty a =>
  have e:=d a (by simp[Op.operands]);have j:=C rfl a (by simp[Op.operands]);simp only[opK,e];rw[agh j];exact pb2 h0 (wq ..) (wq ..) fun v=>k v
 |nilCheck x =>
  have e:=d x (by simp[Op.operands]);have j:=C rfl x (by simp[Op.operands]);simp only[opK,e]
  cases O:ev t x with
  |optr id g i off =>
   have:=j id (by rw[O]; simp[refs1,ŋ]);simp only[this]
   (repeat' split)<;>first|exact h0|exact k _
  |_=>first|exact h0|exact k _
 |binOp op ty x y yt =>
  have p:=d x (by simp[Op.operands]);have u:=d y (by simp[Op.operands]);simp only[opK,p,u];exact pb2 h0 (CG ..) (CG ..) fun v=>k v
 |unOp op ty x =>
  have e:=d x (by simp[Op.operands]);simp only[opK,e]
  (repeat' split)<;>first|exact h0|exact k _|exact pb2 h0 (FY ..) (FY ..) fun v=>k v
 |convert src dst x =>
  have e:=d x (by simp[Op.operands]);simp only[opK,e]
  (repeat' split)<;>first|exact h0|exact k _
 |makeFunc fn first captured =>
  have p:=OG (l:=first.toList) (t:=t) (t2:=t2) fun x q=>d x (by simp[Op.operands]; exact .inl (by simpa using q));have u:=OG (l:=captured.toList) (t:=t) (t2:=t2) fun x q=>d x (by simp[Op.operands]; exact .inr (by simpa using q));simp only[opK,p,u]
  (repeat' split)<;>first|exact h0|exact k _
 |makeMap ty r =>
  simp only[opK]
  (repeat' split)<;>first|exact h0|exact ha rfl _ _
 |makeSlice ty l c =>
  have e:=d l (by simp[Op.operands]);simp only[opK,e]
  (repeat' split)<;>first|exact h0|exact ha rfl _ _
 |slice ty x lo hi mx =>
  have e:=d x (by simp[Op.operands]);have j:=C rfl x (by simp[Op.operands])
  have p:lo.map (ev t2)=lo.map (ev t):=by
   cases lo with
   |none=>rfl
   |some l=>simp[d l (by simp[Op.operands])]
  have u:hi.map (ev t2)=hi.map (ev t):=by
   cases hi with
   |none=>rfl
   |some l=>simp[d l (by simp[Op.operands])]
  simp only[opK,e,p,u]
  (repeat' split)<;>first
   |exact h0
   | (obtain ⟨φ, N, L⟩ := aco j
      rw[N,L]
      exact pbind h0 fun v=>k v)
 |fieldAddr ty x f =>
  have e:=d x (by simp[Op.operands]);have j:=C rfl x (by simp[Op.operands]);simp only[opK,e]
  (repeat' split)<;>first
   |exact h0
   |(rw[acq j]; exact pb2 h0 (qF ..) (qF ..) fun v=>k v)
 |field ty x f =>
  have e:=d x (by simp[Op.operands]);simp only[opK,e]
  (repeat' split)<;>first|exact h0|exact k _
 |indexAddr ty x i =>
  have p:=d x (by simp[Op.operands]);have u:=d i (by simp[Op.operands]);have j:=C rfl x (by simp[Op.operands]);simp only[opK,p,u]
  (repeat' split)<;>first
   |exact h0
   |exact k _
   |exact pb2 h0 (jl ..) (jl ..) fun v=>k _
   |(rw[adf j]; exact pb2 h0 (qM ..) (qM ..) fun v=>k v)
 |index ty x i =>
  have p:=d x (by simp[Op.operands]);have u:=d i (by simp[Op.operands]);simp only[opK,p,u]
  (repeat' split)<;>first|exact h0|exact k _|exact pb2 h0 (jl ..) (jl ..) fun v=>by(repeat' split)<;>first|exact h0|exact k _
 |lookup ty m i ok =>
  have p:=d m (by simp[Op.operands]);have u:=d i (by simp[Op.operands]);have j:=C rfl m (by simp[Op.operands]);simp only[opK,p,u];rw[abf j];exact pb2 h0 (nS ..) (nS ..) fun v=>k v
 |extract x i =>
  have e:=d x (by simp[Op.operands]);simp only[opK,e]
  (repeat' split)<;>first|exact h0|exact k _
 |call c =>
  obtain⟨A,s,tys⟩:=c
  cases A with
  |builtin b =>
   have e:=OG (l:=s.toList) (t:=t) (t2:=t2) fun x q=>d x (by simpa[Op.operands,Call.operands] using q);have j:cls E (.call ⟨.builtin b,s,tys⟩)=1->∀x∈s.toList,∀id∈refs1 (ev t x),lkB h2 id=lkB h id:=fun S x q=>C S x (by simpa[Op.operands,Call.operands] using q);generalize H:s.toList=l at e j;generalize q:tys.toList=m
   cases b with
   |append=>simp[cls] at z
   |clear=>simp[cls] at z
   |len =>
    rcases l with _|⟨x,_|⟨y,l⟩⟩<;>rcases m with _|⟨ty,m⟩<;>simp only[opK,H,q]<;>try exact h0
    have p:ev t2 x=ev t x:=by simpa using e
    rw[p,aiV (j rfl x (by simp))];exact pb2 h0 (B8 ..) (B8 ..) fun v=>k v
   |cap =>
    rcases l with _|⟨x,_|⟨y,l⟩⟩<;>rcases m with _|⟨ty,m⟩<;>simp only[opK,H,q]<;>try exact h0
    have p:ev t2 x=ev t x:=by simpa using e
    rw[p]
    (repeat' split)<;>first|exact h0|exact k _
   |min =>
    rcases l with _|⟨x,l⟩<;>simp only[opK,H,q]<;>try exact h0
    simp only[fe,List.cons.injEq] at e;rw[e.1,e.2];exact pb2 h0 (ja _ _ _ _) (ja _ _ _ _) fun v=>k v
   |max =>
    rcases l with _|⟨x,l⟩<;>simp only[opK,H,q]<;>try exact h0
    simp only[fe,List.cons.injEq] at e;rw[e.1,e.2];exact pb2 h0 (ja _ _ _ _) (ja _ _ _ _) fun v=>k v
   |_=>simp only[opK]; (repeat' split)<;>first|exact h0|contradiction
  |value f=>cases G
  |invoke r m=>exact h0
 |store=>simp[cls] at z
 |mapUpdate=>simp[cls] at z
 |_=>exact h0
def aps (ups:BY (Nat×Blk)) (h:BY Blk):BY Blk:=ups.foldl (fun h p=>Ď h p.1 p.2) h
def adO {id:Nat} {B:Blk}:aps [(id,B)] h=Ď h id B:=rfl
def od {u v:BY (Nat×Blk)}:aps (u++v) h=aps v (aps u h):=by simp[aps]
def wt:∀(ups:BY (Nat×Blk)) (h:BY Blk),(aps ups h).length=h.length
 |[],_=>rfl
 |p::ups,h=>by show(aps ups (Ď h p.1 p.2)).length=_; rw[wt ups,á]
def VU {id:Nat}:∀{ups:BY (Nat×Blk)} {h:BY Blk},(∀p∈ups,p.1≠id)->lkB (aps ups h) id=lkB h id
 |[],_,_=>rfl
 |p::ups,h,b=>by
  show lkB (aps ups (Ď h p.1 p.2)) id=_;rw[VU fun q c=>b q (by simp[c]),Ù _ (Ne.symm (b p (by simp)))]
def CH {id:Nat}:∀{ups:BY (Nat×Blk)} {h h2:BY Blk},h2.length=h.length->lkB h2 id=lkB h id->lkB (aps ups h2) id=lkB (aps ups h) id
 |[],_,_,_,b=>b
 |p::ups,h,h2,c,b=>CH (ups:=ups) (h:=Ď h p.1 p.2) (h2:=Ď h2 p.1 p.2) (by simp[á,c]) (by simp only[yc,c,b])
def ae5 {v:AV} (f:∀id∈ŋ v,lkB h2 id=lkB h id):∃ups,sm h v=aps ups h/\sm h2 v=aps ups h2/\∀p∈ups,p.1∈ŋ v:=by
 have c:sm h v=h->sm h2 v=h2->∃ups,sm h v=aps ups h/\sm h2 v=aps ups h2/\∀p∈ups,p.1∈ŋ v:=fun i d=>⟨[],i,d,by simp⟩
 cases v with
 |own id g =>
  have e:=f id (by simp[ŋ])
  cases b:lkB h id with
  |row t g fz xs =>
   rw[b] at e;exact⟨[(id,.row t g true xs)],by simp only[sm,b]; rfl,by simp only[sm,e]; rfl,by simp[ŋ]⟩
  |_=>rw[b] at e; exact c (by simp only[sm,b]) (by simp only[sm,e])
 |sub id g lo n =>
  have e:=f id (by simp[ŋ])
  cases b:lkB h id with
  |row t g fz xs =>
   rw[b] at e;exact⟨[(id,.row t g true xs)],by simp only[sm,b]; rfl,by simp only[sm,e]; rfl,by simp[ŋ]⟩
  |_=>rw[b] at e; exact c (by simp only[sm,b]) (by simp only[sm,e])
 |_=>exact c rfl rfl
def Yv:∀{cs:BY AV} {h h2:BY Blk},h2.length=h.length->(∀c∈cs,∀id∈ŋ c,lkB h2 id=lkB h id)->∃ups,C4 h cs=aps ups h/\C4 h2 cs=aps ups h2/\∀p∈ups,∃c∈cs,p.1∈ŋ c
 |[],_,_,_,_=>⟨[],rfl,rfl,by simp⟩
 |c::cs,h,h2,i,f=>by
  obtain⟨u,j,e,o⟩:=ae5 (f c (by simp));obtain⟨v,m,l,k⟩:=Yv (cs:=cs) (h:=sm h c) (h2:=sm h2 c) (by rw[nY,nY,i]) (fun d hd id hi=>by rw[j,e]; exact CH i (f d (by simp[hd]) id hi));refine⟨u++v,by simp only[C4]; rw[m,j,od],by simp only[C4]; rw[l,e,od],fun p b=>?_⟩;rcases dl.1 b with b|b
  ·exact⟨c,by simp,o p b⟩
  ·obtain⟨d,hd,hi⟩:=k p b;exact⟨d,by simp[hd],hi⟩
def adm {v:AV} (l:h2.length=h.length) (k:∀id∈refs1 v,lkB h2 id=lkB h id):∃ups,frz h v=aps ups h/\frz h2 v=aps ups h2/\∀p∈ups,p.1∈refs1 v:=by
 have one:(∀id∈ŋ v,lkB h2 id=lkB h id)->∃ups,sm h v=aps ups h/\sm h2 v=aps ups h2/\∀p∈ups,p.1∈ŋ v:=ae5
 cases v with
 |agg cs =>
  obtain⟨u,j,d,i⟩:=Yv (cs:=cs) l fun c m id hi=>k id (dG.2 ⟨c,m,hi⟩);exact⟨u,j,d,fun p e=>dG.2 (i p e)⟩
 |fn f a b =>
  obtain⟨u,j,d,i⟩:=one fun _ hi=>by cases hi
  exact⟨u,j,d,fun p e=>by cases i p e⟩
 |_=>exact one k
def Lf {ty:Ty} {x:AV} (b:∀id∈refs1 x,lkB h2 id=lkB h id):Û (.slice ty) [ā h2 x]=Û (.slice ty) [ā h x]:=by
 have:ā h2 x=ā h x:=qE fun id hi=>b id (by cases x<;>first|exact hi|simp[ŋ] at hi)
 rw[this]
def agI {v:AV} {vs:BY AV} (d:Ŝ v=some vs):∀c∈vs,∀id∈ŋ c,id∈refs1 v:=by
 intro c b id hi
 cases v<;>simp only[Ŝ,Option.some.injEq,reduceCtorEq] at d<;>subst d
 all_goals first
  |(simp only[dq] at b; subst b; exact hi)
  |(simp only[dq] at b; subst b; cases hi; done)
  |exact dG.2 ⟨c,b,hi⟩
def Zs {σ σ2:Type} {R:BE σ->BE σ2->Prop} {ty:TypeId} {a v:AV} {K:BY Blk->BE σ} {K2:BY Blk->BE σ2} (h0:R none none) (d:h2.length=h.length)
 (k:∀id∈refs1 a,lkB h2 id=lkB h id) (j:∀id∈refs1 v,lkB h2 id=lkB h id) (l:∀ups,(∀p∈ups,p.1∈refs1 a\/p.1∈refs1 v)->R (K (aps ups h)) (K2 (aps ups h2))):R (yI P h ty a v K) (yI P h2 ty a v K2):=by
 unfold yI
 split<;>try exact h0
 rename_i vs e
 split<;>try exact h0
 split<;>try exact h0
 ·rename_i id off;have f:=k id (by simp[refs1,ŋ]);rw[f]
  (repeat' split)<;>first
   |exact h0
   |exact l [(id,_)] fun p b=>.inl (by simp only[dq] at b; subst b; simp[refs1,ŋ])
 ·rename_i id g i off;have f:=k id (by simp[refs1,ŋ]);obtain⟨u,o,m,s⟩:=adm (v:=v) d j
  have y:lkB (frz h2 v) id=lkB (frz h v) id:=by rw[o,m]; exact CH d f
  have x:vs.map (ā h2)=vs.map (ā h):=fo fun c r=>qE fun id hi=>j id (agI e c r id hi);rw[y,x]
  (repeat' split)<;>first
   |exact h0
   | (rw [o, m]
      refine l (u++[(id,_)]) (fun p b=>?_) |> fun q=>(by simpa only[od,adO] using q)
      rcases dl.1 b with b|b
      ·exact .inr (s p b)
      ·exact .inl (by simp only[dq] at b; subst b; simp[refs1,ŋ]))
def ae3:∀{ps:BY (Nat×AV)} {h h2:BY Blk},h2.length=h.length->(∀p∈ps,∀id∈refs1 p.2,lkB h2 id=lkB h id)->∃ups,frzA h ps=aps ups h/\frzA h2 ps=aps ups h2/\∀p∈ups,∃q∈ps,p.1∈refs1 q.2
 |[],_,_,_,_=>⟨[],rfl,rfl,by simp⟩
 |(i,v)::ps,h,h2,e,j=>by
  obtain⟨u,f,b,o⟩:=adm (v:=v) e (j (i,v) (by simp));obtain⟨w,m,l,k⟩:=ae3 (ps:=ps) (h:=frz h v) (h2:=frz h2 v) (by rw[f,b,wt,wt,e]) (fun q d id hi=>by rw[f,b]; exact CH e (j q (by simp[d]) id hi));refine⟨u++w,by simp only[frzA]; rw[m,f,od],by simp only[frzA]; rw[l,b,od],fun p c=>?_⟩;rcases dl.1 c with c|c
  ·exact⟨(i,v),by simp,o p c⟩
  ·obtain⟨q,d,hi⟩:=k p c;exact⟨q,by simp[d],hi⟩
def anT {σ σ2:Type} {R:BE σ->BE σ2->Prop} {E:Env ρ} {o:Op} {nid:Nat} {eat:Bool} {K:AV->St->BE σ} {K2:AV->St->BE σ2} (h0:R none none) (S:cls E o=2) (T:Vr o=false) (k:h2.length=h.length) (heat:∀ty n ps,o=.buildSlice ty n ps->eat=false)
 (L:∀x∈o.operands.toList,ev t2 x=ev t x) (U:∀x∈o.operands.toList,∀id∈refs1 (ev t x),lkB h2 id=lkB h id)
 (J:∀v ups,(∀p∈ups,(p.1=nid/\Ė E.clone o=true)\/∃x∈o.operands.toList,p.1∈refs1 (ev t x))->R (K v {t:=t,h:=aps ups h}) (K2 v {t:=t2,h:=aps ups h2})) :
 R (opK P {t:=t,h:=h} nid eat o K) (opK P {t:=t2,h:=h2} nid eat o K2):=by
 cases o with
 |buildSlice ty n ps =>
  obtain rfl:=heat ty n ps rfl;have e:=aiB (l:=ps.toList) (t:=t) (t2:=t2) fun x A=>L x (by simpa[Op.operands] using A)
  have Y:∀p∈ps.toList.map (fun p=>(p.1,ev t p.2)),∀id∈refs1 p.2,lkB h2 id=lkB h id:=fun p d=>by
   obtain⟨q,hq,rfl⟩:=dH.1 d;exact U q.2 (by simpa[Op.operands] using⟨q.1,by simpa using hq⟩)
  have hr:∀ty n,Sr h2 ty n (ps.toList.map fun p=>(p.1,ev t p.2))=Sr h ty n (ps.toList.map fun p=>(p.1,ev t p.2)):=fun ty n=>Up Y;obtain⟨u,f1,f2,f3⟩:=ae3 k Y;simp only[opK,e,hr,f1,f2]
  (repeat' split)<;>first
   |exact h0
   | (refine J _ (u ++ [(nid, _)]) (fun p d => ?_) |> fun q => (by simpa only [od, adO] using q)
      rcases dl.1 d with d|d
      ·obtain⟨q,hq,hi⟩:=f3 p d;obtain⟨q',hq',rfl⟩:=dH.1 hq;exact .inr ⟨q'.2,by simpa[Op.operands] using⟨q'.1,by simpa using hq'⟩,hi⟩
      ·exact .inl ⟨by simp only[dq] at d; subst d; rfl,rfl⟩)
 |store ty a v =>
  have e1:=L a (by simp[Op.operands]);have e2:=L v (by simp[Op.operands]);have W:=U a (by simp[Op.operands]);have s2:=U v (by simp[Op.operands]);have ma:∀{id:Nat},id∈refs1 (ev t a)->∃x∈(Op.store ty a v).operands.toList,id∈refs1 (ev t x):=fun hi=>⟨a,by simp[Op.operands],hi⟩;have Z:∀{id:Nat},id∈refs1 (ev t v)->∃x∈(Op.store ty a v).operands.toList,id∈refs1 (ev t x):=fun hi=>⟨v,by simp[Op.operands],hi⟩;simp only[opK,e1,e2]
  cases eat with
  |false =>
   simp only;exact Zs h0 k W s2 fun ups O=>J _ ups fun p d=>.inr ((O p d).elim ma Z)
  |true =>
   simp only
   cases N:ev t v with
   |sub id g lo n =>
    rw[N] at s2 Z;have e3:=s2 id (by simp[refs1,ŋ]);simp only[e3]
    split<;>try exact h0
    split<;>try exact h0
    refine Zs h0 (by simp[á,k]) (fun j hj=>?_) (fun j hj=>?_) fun ups O=>J _ ((id,_)::ups) fun p d=>.inr ?_
    ·exact CH (ups:=[(id,_)]) k (W j hj)
    ·simp only[refs1,ŋ,dq] at hj;subst hj;exact CH (ups:=[(_,_)]) k e3
    ·rcases dm.1 d with rfl|d
     ·exact Z (by simp[refs1,ŋ])
     ·rcases O p d with O|O
      ·exact ma O
      ·exact Z (by simpa[refs1,ŋ] using O)
   |_=>exact h0
 |mapUpdate ty m i x =>
  have e1:=L m (by simp[Op.operands]);have e2:=L i (by simp[Op.operands]);have e3:=L x (by simp[Op.operands]);have W:=U m (by simp[Op.operands]);have s3:=U x (by simp[Op.operands]);obtain⟨u,f1,f2,f3⟩:=adm (v:=ev t x) k s3;simp only[opK,e1,e2,e3];unfold mb;rw[NZ s3]
  split<;>try exact h0
  split<;>try exact h0
  rename_i id A;rw[A] at W;rw[W id (by simp[refs1,ŋ])]
  (repeat' split)<;>first
   |exact h0
   | (rw [f1, f2]
      refine J _ (u++[(id,_)]) (fun p d=>?_) |> fun q=>(by simpa only[od,adO] using q)
      rcases dl.1 d with d|d
      ·exact .inr ⟨x,by simp[Op.operands],f3 p d⟩
      ·exact .inr ⟨m,by simp[Op.operands],by simp only[dq] at d; subst d; rw[A]; simp[refs1,ŋ]⟩)
 |call c =>
  obtain⟨H,s,tys⟩:=c
  cases H with
  |builtin b =>
   have e:=OG (l:=s.toList) (t:=t) (t2:=t2) fun x A=>L x (by simpa[Op.operands,Call.operands] using A);have G:∀x∈s.toList,∀id∈refs1 (ev t x),lkB h2 id=lkB h id:=fun x A=>U x (by simpa[Op.operands,Call.operands] using A)
   have C:∀x∈s.toList,x∈(Op.call ⟨.builtin b,s,tys⟩).operands.toList:=fun x A=>by simpa[Op.operands,Call.operands] using A
   generalize hl:s.toList=l at e G C;generalize A:tys.toList=m
   cases b with
   |append =>
    rcases l with _|⟨x,_|⟨y,_|⟨z,l⟩⟩⟩<;>rcases m with _|⟨ty,_|⟨ty',_|⟨ty'',m⟩⟩⟩<;>simp only[opK,hl,A]<;>try exact h0
    simp only[fe,List.cons.injEq,fF,and_true] at e;rw[e.1,e.2];have V:=G x (by simp);have sy:=G y (by simp);have I:∀v B,R (K v {t:=t,h:=Ď h nid B}) (K2 v {t:=t2,h:=Ď h2 nid B}):=fun v B=>J v [(nid,B)] fun p d=>.inl ⟨by simp only[dq] at d; subst d; rfl,rfl⟩
    (repeat' split)<;>first
     |exact h0
     | (unfold BH
        simp only[Lf sy]
        split<;>try exact h0
        split<;>try exact h0
        split<;>try exact h0
        split<;>try exact h0
        split<;>try exact h0
        ·split<;>first|exact h0|exact I _ _
        ·rename_i id g N;rw[N] at V;rw[V id (by simp[refs1,ŋ])]
         (repeat' split)<;>first
          |exact h0
          |exact J _ [(id,_)] fun p d=>.inr ⟨x,C x (by simp),by simp only[dq] at d; subst d; rw[N]; simp[refs1,ŋ]⟩)
     | (unfold Lc
        (repeat' split)<;>first|exact h0|exact I _ _)
   |clear =>
    rcases l with _|⟨x,_|⟨y,l⟩⟩<;>rcases m with _|⟨ty,_|⟨ty',m⟩⟩<;>simp only[opK,hl,A]<;>try exact h0
    simp only[fe,List.cons.injEq,fF,and_true] at e;rw[e];have V:=G x (by simp)
    split<;>try exact h0
    unfold L3
    split<;>try exact h0
    ·exact J _ [] (by simp)
    ·rename_i id g lo n _ N _;rw[N] at V;rw[V id (by simp[refs1,ŋ])]
     (repeat' split)<;>first
      |exact h0
      |exact J _ [(id,_)] fun p d=>.inr ⟨x,C x (by simp),by simp only[dq] at d; subst d; rw[N]; simp[refs1,ŋ]⟩
   |_=>simp[cls] at S
  |value f=>cases T
  |invoke r m=>simp[cls] at S
 |_=>simp[cls] at S
end
end Go.Am
end

noncomputable section
namespace Go.Am
variable [Ghost]
section
variable {ρ:Type} {P:Program} {h h2:BY Blk} {t t2:BY AV}
def ab2 {ty:Ty} {a:AV} (d:pv h h2 a):amz h2 ty a=amz h ty a:=by
 have b:aed h2 a=aed h a:=NZ d.one
 cases ty with
 |ptr u =>
  cases a with
  |box id off =>
   cases off with
   |zero =>
    have j:lkB h2 id=lkB h id:=d.one id (by simp[refs1,ŋ]);simp only[amz,j]
    cases e:lkB h id with
    |cells cs =>
     simp only
     have:cs.map (ā h2)=cs.map (ā h):=fo fun c f=>qE fun i hi=>d i (by
      simp only[refs2,dl,dG]
      exact .inr ⟨id,by simp[refs1,ŋ],by rw[e]; exact⟨c,f,hi⟩⟩)
     rw[this]
    |_=>rfl
   |succ n=>rfl
  |eptr k x off=>cases off<;>rfl
  |_=>rfl
 |_=>cases a with
  |_=>simp only[amz,b]
def VS:∀{l:BY Ty} {ty:Ty} {as:BY AV},(∀a∈as,pv h h2 a)->Y0 h2 l ty as=Y0 h l ty as
 |[],ty,[],_=>rfl
 |[],ty,[a],c=>by simp only[Y0]; exact ab2 (c a (by simp))
 |[],ty,_::_::_,_=>rfl
 |u::l,ty,[],_=>rfl
 |u::l,ty,a::as,c=>by
  simp only[Y0];rw[ab2 (c a (by simp)),VS fun b hb=>c b (by simp[hb])]
def VT {l:BY Ty} {as:BY AV} (b:∀a∈as,pv h h2 a):FX h2 l as=FX h l as:=by
 cases l with
 |nil=>rfl
 |cons ty l=>exact VS b
def adr {E:Env ρ} {o:Op} (c:∀x∈o.operands.toList,ev t2 x=ev t x):VI E t2 o=VI E t o:=by
 unfold VI
 split
 ·rename_i s b tys;rw[c (.tmp s) (by simp[Op.operands,Call.operands])]
 ·rfl
def RA {E:Env ρ} {o:Op} (d:∀x∈o.operands.toList,ev t2 x=ev t x) (e:1<=cls E o->∀x∈o.operands.toList,pv h h2 (ev t x)) :
 nr E {t:=t2,h:=h2} o=nr E {t:=t,h:=h} o:=by
 unfold nr
 split
 ·rename_i f;have b:1<=cls E o:=fq f
  have i:(o.operands.toList.all fun x=>(refs2 h2 (ev t2 x)).all fun id=>!ai0 (lkB h2 id))=o.operands.toList.all fun x=>(refs2 h (ev t x)).all fun id=>!ai0 (lkB h id):=by
   rw[eQ];simp only[dM];refine forall_congr' fun x=>forall_congr' fun c=>?_;rw[d x c,(e b x c).refs]
   exact forall_congr' fun id=>forall_congr' fun hi=>by rw[e b x c id hi]
  exact congr (congrArg and i) (adr d)
 ·rfl
def qt {E:Env ρ} {o:Op} (b:1<=cls E o) {id:Nat}:id∈C5 E {t:=t,h:=h} o↔∃x∈o.operands.toList,id∈refs2 h (ev t x):=by
 unfold C5;have:Nat.ble 1 (cls E o)=true:=Nat.ble_eq_true_of_le b;simp only[this,List.mem_flatMap]
def IA {E:Env ρ} {o:Op} (b:cls E o=0) {S:St}:C5 E S o=[]:=by
 unfold C5; rw[b]
def Loc (E:Env ρ) (o:Op) (nid:Nat) (t:BY AV) (h:BY Blk) (t2:BY AV) (h2:BY Blk) (z b:(AV->St->BE ρ)->BE ρ):Prop :=
 ∃φ:BE (AV×BY (Nat×Blk)),(∀r,φ=some r->∀p∈r.2,(p.1=nid/\Ė E.clone o=true)\/(cls E o=2/\p.1∈C5 E {t:=t,h:=h} o)) /\
  (∀K,z K=φ.bind fun r=>K r.1 {t:=t,h:=aps r.2 h})/\∀K,b K=φ.bind fun r=>K r.1 {t:=t2,h:=aps r.2 h2}
def Loc.no {E:Env ρ} {o:Op} {nid:Nat} {z c:(AV->St->BE ρ)->BE ρ} (d:∀K,z K=none) (b:∀K,c K=none):Loc E o nid t h t2 h2 z c :=
 ⟨none,by simp,fun K=>by rw[d]; rfl,fun K=>by rw[b]; rfl⟩
def ajH {σ σ2:Type} {R:BE σ->BE σ2->Prop} {g nid:Nat} {fz:Bool} {x:AV} {K:AV->St->BE σ} {K2:AV->St->BE σ2} (h0:R none none) (d:∀id∈refs1 x,lkB h2 id=lkB h id)
 (b:∀v c,R (K v {t:=t,h:=ap nid c h}) (K2 v {t:=t2,h:=ap nid c h2})):R (Bu P g fz {t:=t,h:=h} nid x K) (Bu P g fz {t:=t2,h:=h2} nid x K2):=by
 simp only[Bu,Lf d]
 (repeat' split)<;>first|exact h0|exact b _ none|exact b _ (some _)
def efU (nid:Nat):BE Blk->BY (Nat×Blk)
 |none=>[]
 |some B=>[(nid,B)]
def afz {nid:Nat} {b:BE Blk}:ap nid b h=aps (efU nid b) h:=by cases b<;>rfl
def anH {E:Env ρ} {call:BY Nat->Bool->Nat->BY AV->BY Blk->(AV->BY Blk->BE ρ)->BE ρ} {fid:Nat} {path:BY Nat} {nid:Nat} {o:Oper}
 (k:akM E call) (J:cls E o.op<=2) (hlen:h2.length=h.length) (hx:∀x∈o.op.operands.toList,ev t2 x=ev t x) (hs:1<=cls E o.op->∀x∈o.op.operands.toList,pv h h2 (ev t x)) :
 Loc E o.op nid t h t2 h2 (iA E call fid path true {t:=t,h:=h} nid o) (iA E call fid path true {t:=t2,h:=h2} nid o):=by
 have z:=RA hx hs
 cases L:nr E {t:=t,h:=h} o.op with
 |false=>exact .no (fun K=>by simp[iA,L]) (fun K=>by simp[iA,z,L])
 |true =>
  rw[L] at z
  have plain:(∀f d tys,o.op≠.call ⟨.value f,d,tys⟩)->Loc E o.op nid t h t2 h2 (iA E call fid path true {t:=t,h:=h} nid o) (iA E call fid path true {t:=t2,h:=h2} nid o):=by
   intro hno
   have C:∀S:St,nr E S o.op=true->∀K,iA E call fid path true S nid o K=opK E.P S nid (Ua E true fid o) o.op K:=fun S Z K=>by
    unfold iA;simp only[Z,Bool.not_true,Bool.and_false,Bool.false_and]
   have Y:Vr o.op=false:=by
    cases I:o.op<;>try rfl
    rename_i c;obtain⟨f,d,tys⟩:=c
    cases f<;>first|rfl|exact absurd I (hno _ _ _)
   have fin:(∃φ:BE (AV×BY (Nat×Blk)),(∀r,φ=some r->∀p∈r.2,(p.1=nid/\Ė E.clone o.op=true)\/(cls E o.op=2/\p.1∈C5 E {t:=t,h:=h} o.op)) /\
    opK E.P {t:=t,h:=h} nid (Ua E true fid o) o.op (fun v S=>some (v,S))=φ.map (fun r=>(r.1,({t:=t,h:=aps r.2 h}:St)))/\opK E.P {t:=t2,h:=h2} nid (Ua E true fid o) o.op (fun v S=>some (v,S))=φ.map fun r=>(r.1,({t:=t2,h:=aps r.2 h2}:St))) ->
    Loc E o.op nid t h t2 h2 (iA E call fid path true {t:=t,h:=h} nid o) (iA E call fid path true {t:=t2,h:=h2} nid o):=by
    rintro⟨φ,h1,h2',h3⟩;refine⟨φ,h1,fun K=>?_,fun K=>?_⟩
    ·rw[C _ L,Wx]; unfold opR; rw[h2']; cases φ<;>rfl
    ·rw[C _ z,Wx]; unfold opR; rw[h3]; cases φ<;>rfl
   apply fin
   by_cases h2c:cls E o.op=2
   ·refine anT (P:=E.P) (E:=E) (o:=o.op) (nid:=nid) (σ:=AV×St) (σ2:=AV×St) (K:=fun v S=>some (v,S)) (K2:=fun v S=>some (v,S))
     (R:=fun x y=>∃φ:BE (AV×BY (Nat×Blk)),(∀r,φ=some r->∀p∈r.2,(p.1=nid/\Ė E.clone o.op=true)\/(cls E o.op=2/\p.1∈C5 E {t:=t,h:=h} o.op))/\x=φ.map (fun r=>(r.1,({t:=t,h:=aps r.2 h}:St)))/\y=φ.map fun r=>(r.1,({t:=t2,h:=aps r.2 h2}:St)))
     ⟨none,by simp,rfl,rfl⟩ h2c Y hlen (fun ty n ps I=>by rw[Ua,I]; rfl) hx (fun x G=>(hs (by omega) x G).one) fun v ups hu=>⟨some (v,ups),fun r H p m=>?_,rfl,rfl⟩
    cases H;rcases hu p m with hu|⟨x,G,hi⟩
    ·exact .inl hu
    ·exact .inr ⟨h2c,(qt (by omega)).2 ⟨x,G,by simp only[refs2,dl]; exact .inl hi⟩⟩
   ·have hea:Ua E true fid o=false:=by
     unfold Ua
     cases I:o.op<;>first|rfl|(exfalso; apply h2c; rw[I]; rfl)
    rw[hea]
    refine amW (P:=E.P) (E:=E) (o:=o.op) (nid:=nid) (σ:=AV×St) (σ2:=AV×St) (K:=fun v S=>some (v,S)) (K2:=fun v S=>some (v,S))
     (R:=fun x y=>∃φ:BE (AV×BY (Nat×Blk)),(∀r,φ=some r->∀p∈r.2,(p.1=nid/\Ė E.clone o.op=true)\/(cls E o.op=2/\p.1∈C5 E {t:=t,h:=h} o.op))/\x=φ.map (fun r=>(r.1,({t:=t,h:=aps r.2 h}:St)))/\y=φ.map fun r=>(r.1,({t:=t2,h:=aps r.2 h2}:St)))
     ⟨none,by simp,rfl,rfl⟩ (by omega) Y hx (fun h1 x G=>(hs (by omega) x G).one) fun v ef hef=>⟨some (v,efU nid ef),fun r H p m=>?_,by rw[afz]; rfl,by rw[afz]; rfl⟩
    cases H
    cases ef with
    |none=>cases m
    |some B =>
     simp only[efU,dq] at m;subst m;exact .inl ⟨rfl,hef rfl⟩
  cases I:o.op with
  |call c =>
   obtain⟨f,d,tys⟩:=c
   cases f with
   |value f =>
    cases f with
    |func g =>
     rw[I] at hx hs J;have hxa:∀x∈d.toList,ev t2 x=ev t x:=fun x G=>hx x (by simp[Op.operands,Call.operands]; exact .inr (by simpa using G))
     have j:∀x∈d.toList,x∈(Op.call ⟨.value (.func g),d,tys⟩).operands.toList:=fun x G=>by simp[Op.operands,Call.operands]; exact .inr (by simpa using G)
     have he:=OG hxa
     cases hc:E.clone g with
     |true =>
      have hcls:cls E (.call ⟨.value (.func g),d,tys⟩)=1:=by simp[cls,hc]
      have C:∀(S:St),nr E S o.op=true->∀K,iA E call fid path true S nid o K=match d.toList with
       |[x]=>Bu E.P g (E.eat fid (o.dst.getD 0)) S nid (ev S.t x) K
       |_=>none:=fun S Z K=>by
       unfold iA;simp only[Z,Bool.not_true,Bool.and_false];rw[I];simp only[ev,hc,agj,Bool.and_self];rfl
      generalize hl:d.toList=l at C he hxa j;rcases l with _|⟨x,_|⟨y,l⟩⟩
      ·exact .no (fun K=>C _ L K) (fun K=>C _ z K)
      ·have hsx:=(hs (by omega) x (j x (by simp))).one;have e1:=hxa x (by simp)
       obtain⟨φ,h1,h2',h3⟩:=ajH (P:=E.P) (g:=g) (fz:=E.eat fid (o.dst.getD 0)) (nid:=nid) (t:=t) (t2:=t2) (σ:=AV×St) (σ2:=AV×St) (K:=fun v S=>some (v,S)) (K2:=fun v S=>some (v,S))
        (R:=fun x y=>∃φ:BE (AV×BY (Nat×Blk)),(∀r,φ=some r->∀p∈r.2,p.1=nid)/\x=φ.map (fun r=>(r.1,({t:=t,h:=aps r.2 h}:St)))/\y=φ.map fun r=>(r.1,{t:=t2,h:=aps r.2 h2}))
        ⟨none,by simp,rfl,rfl⟩ hsx fun v ef=>⟨some (v,efU nid ef),fun r H p m=>by
         cases H
         cases ef with
         |none=>cases m
         |some B=>simp only[efU,dq] at m; rw[m],by rw[afz]; rfl,by rw[afz]; rfl⟩
       refine⟨φ,fun r H p m=>.inl ⟨h1 r H p m,by simpa[Ė] using hc⟩,fun K=>?_,fun K=>?_⟩
       ·rw[C _ L];simp only;rw[KX,h2']
        cases φ<;>rfl
       ·rw[C _ z];simp only[e1];rw[KX,h3]
        cases φ<;>rfl
      ·exact .no (fun K=>C _ L K) (fun K=>C _ z K)
     |false =>
      have C:∀(S:St),nr E S o.op=true->∀K,iA E call fid path true S nid o K=call path true g (d.toList.map (ev S.t)) S.h fun v h=>K v {t:=S.t,h:=h}:=fun S Z K=>by
       unfold iA;simp only[Z,Bool.not_true,Bool.and_false];rw[I];simp only[ev,hc,agj,Bool.false_and,List.nil_append,List.append_nil]
      rcases k with k|⟨k,hse,hce⟩
      ·exact .no (fun K=>by rw[C _ L]; exact k _ _ _ _ _ _) (fun K=>by rw[C _ z]; exact k _ _ _ _ _ _)
      cases m:E.pure g with
      |none =>
       have h1c:1<=cls E (.call ⟨.value (.func g),d,tys⟩):=by simp only[cls,hc,m]; cases E.sort g<;>cases E.compact g<;>simp
       have row:∀(f:BY Blk->AV->(AV->BY Blk->BE ρ)->BE ρ),(∀S K,nr E S o.op=true->iA E call fid path true S nid o K=match d.toList.map (ev S.t) with|[x]=>f S.h x fun v h=>K v {t:=S.t,h:=h}|_=>none)->cls E (.call ⟨.value (.func g),d,tys⟩)=2 ->
        (∀x,(∀id∈refs1 x,lkB h2 id=lkB h id)->∃φ:BE (AV×BY (Nat×Blk)),(∀r,φ=some r->∀p∈r.2,p.1∈refs1 x)/\(∀K,f h x K=φ.bind fun r=>K r.1 (aps r.2 h))/\∀K,f h2 x K=φ.bind fun r=>K r.1 (aps r.2 h2)) ->
        Loc E (.call ⟨.value (.func g),d,tys⟩) nid t h t2 h2 (iA E call fid path true {t:=t,h:=h} nid o) (iA E call fid path true {t:=t2,h:=h2} nid o):=by
        intro f N h2c hloc;generalize hl:d.toList=l at N he j;rcases l with _|⟨x,_|⟨y,l⟩⟩
        ·exact .no (fun K=>N _ K L) (fun K=>N _ K z)
        ·obtain⟨φ,q1,q2,q3⟩:=hloc (ev t x) (hs h1c x (j x (by simp))).one;refine⟨φ,fun r H p m=>.inr ⟨h2c,(qt h1c).2 ⟨x,j x (by simp),by simp only[refs2,dl]; exact .inl (q1 r H p m)⟩⟩,fun K=>?_,fun K=>?_⟩
         ·rw[N _ K L];exact q2 _
         ·rw[N _ K z];simp only[he];exact q3 _
        ·exact .no (fun K=>N _ K L) (fun K=>N _ K z)
       cases U:E.sort g with
       |true =>
        refine row VY (fun S K Z=>(C S Z K).trans (hse g m U path true _ S.h _)) (by simp[cls,hc,m,U]) fun x hx1=>?_;unfold VY
        cases x with
        |own id g =>
         have e3:=hx1 id (by simp[refs1,ŋ]);simp only[e3]
         cases lkB h id with
         |row ty g' fz xs =>
          cases fz<;>simp only
          ·split
           ·split
            ·split
             ·exact⟨some (_,[(id,_)]),by simp[refs1,ŋ],fun K=>rfl,fun K=>rfl⟩
             ·exact⟨none,by simp,fun K=>rfl,fun K=>rfl⟩
            ·exact⟨none,by simp,fun K=>rfl,fun K=>rfl⟩
           ·exact⟨none,by simp,fun K=>rfl,fun K=>rfl⟩
          ·exact⟨none,by simp,fun K=>rfl,fun K=>rfl⟩
         |_=>exact⟨none,by simp,fun K=>rfl,fun K=>rfl⟩
        |nils=>exact⟨some (_,[]),by simp,fun K=>rfl,fun K=>rfl⟩
        |_=>exact⟨none,by simp,fun K=>rfl,fun K=>rfl⟩
       |false =>
        cases hco:E.compact g with
        |true =>
         refine row qy (fun S K Z=>(C S Z K).trans (hce g m U hco path true _ S.h _)) (by simp[cls,hc,m,U,hco]) fun x hx1=>?_;unfold qy
         cases x with
         |own id g =>
          have e3:=hx1 id (by simp[refs1,ŋ]);simp only[e3]
          cases lkB h id with
          |row ty g' fz xs =>
           cases fz<;>simp only
           ·split
            ·split
             ·split
              ·exact⟨some (_,[(id,_)]),by simp[refs1,ŋ],fun K=>rfl,fun K=>rfl⟩
              ·exact⟨none,by simp,fun K=>rfl,fun K=>rfl⟩
             ·exact⟨none,by simp,fun K=>rfl,fun K=>rfl⟩
            ·exact⟨none,by simp,fun K=>rfl,fun K=>rfl⟩
           ·exact⟨none,by simp,fun K=>rfl,fun K=>rfl⟩
          |_=>exact⟨none,by simp,fun K=>rfl,fun K=>rfl⟩
         |nils=>exact⟨some (_,[]),by simp,fun K=>rfl,fun K=>rfl⟩
         |_=>exact⟨none,by simp,fun K=>rfl,fun K=>rfl⟩
        |false=>simp[cls,hc,m,U,hco] at J
      |some p =>
       have h1c:1<=cls E (.call ⟨.value (.func g),d,tys⟩):=by simp only[cls,hc,m]; cases E.fz g<;>simp
       have hsa:∀a∈d.toList.map (ev t),pv h h2 a:=fun a ha=>by
        obtain⟨x,G,rfl⟩:=dH.1 ha;exact hs h1c x (j x G)
       obtain⟨u,f1,f2,f3⟩:=Yv (cs:=(d.toList.map (ev t)).flatMap mW) hlen fun c hcm id hi=>by
        obtain⟨a,ha,A⟩:=dG.1 hcm;refine(hsa a ha).one id ?_
        cases a<;>first
         |(simp only[mW,dq] at A; subst A; exact hi)
         |(simp only[mW,dq] at A; subst A; cases hi; done)
         |exact dG.2 ⟨c,A,hi⟩
       have f3':∀q∈u,∃x∈d.toList,q.1∈refs2 h (ev t x):=fun q hq=>by
        obtain⟨c,hcm,hi⟩:=f3 q hq;obtain⟨a,ha,A⟩:=dG.1 hcm;obtain⟨x,G,rfl⟩:=dH.1 ha;refine⟨x,G,?_⟩;simp only[refs2,dl];left;generalize ev t x=a at A
        cases a<;>first
         |(simp only[mW,dq] at A; subst A; exact hi)
         |(simp only[mW,dq] at A; subst A; cases hi; done)
         |exact dG.2 ⟨c,A,hi⟩
       have V:∀(b:Bool) (h':BY Blk),FX h' p.ts (d.toList.map (ev t))=FX h p.ts (d.toList.map (ev t))->C4 h' ((d.toList.map (ev t)).flatMap mW)=aps u h'->∀(K:AV->BY Blk->BE ρ),
        We b p h' (d.toList.map (ev t)) K=(match FX h p.ts (d.toList.map (ev t)) with
        |some x=>(p.F x).bind fun y=>match Oc (aci p.rs y) with
         |true=>some (aci p.rs y,[])
         |false=>match (d.toList.map (ev t)).all (fun a=>!Sd a) with
          |true=>some (aci p.rs y,[])
          |false=>match b||!(d.toList.map (ev t)).all air with
           |true=>none
           |false=>some (aci p.rs y,u)
        |none=>none).bind fun r=>K r.1 (aps r.2 h'):=fun b h' ha N K=>by
        unfold We Æ;rw[ha,N]
        cases FX h p.ts (d.toList.map (ev t)) with
        |none=>rfl
        |some x =>
         simp only
         cases p.F x with
         |none=>rfl
         |some y =>
          simp only[eY]
          cases Oc (aci p.rs y) with
          |true=>rfl
          |false=>cases(d.toList.map (ev t)).all (fun a=>!Sd a) with
           |true=>rfl
           |false=>cases b||!(d.toList.map (ev t)).all air<;>rfl
       refine⟨_,?_,fun K=>(C _ L K).trans ((k g p m path true _ h _).trans (V (true&&!E.fz g) h rfl f1 _)),fun K=>(C _ z K).trans (by simp only[he]; exact(k g p m path true _ h2 _).trans (V (true&&!E.fz g) h2 (VT hsa) f2 _))⟩;intro r e q hq
       have hcase:r.2=[]\/(E.fz g=true/\r.2=u):=by
        cases hA:FX h p.ts (d.toList.map (ev t)) with
        |none=>rw[hA] at e; cases e
        |some x =>
         rw[hA] at e;simp only at e
         cases hF:p.F x with
         |none=>rw[hF] at e; cases e
         |some y =>
          rw[hF] at e;simp only[eY] at e
          split at e
          ·cases e; exact .inl rfl
          ·split at e
           ·cases e; exact .inl rfl
           ·split at e
            ·cases e
            ·rename_i hb;cases e;simp only[eR,gN,ft] at hb;exact .inr ⟨hb.1,rfl⟩
       rcases hcase with hz|⟨hfz,hz⟩
       ·rw[hz] at hq; cases hq
       ·rw[hz] at hq;obtain⟨x,G,hi⟩:=f3' q hq;exact .inr ⟨by simp[cls,hc,m,hfz],(qt h1c).2 ⟨x,j x G,hi⟩⟩
    |tmp s =>
     rw[I] at hx hs J
     obtain⟨g,hg⟩:∃g,E.hint s=some g:=by
      cases hh:E.hint s with
      |none=>simp[cls,hh] at J
      |some g=>exact⟨g,rfl⟩
     have hpf:(E.pure g).isSome=true/\E.fz g=false:=by
      simp only[cls,hg] at J
      split at J
      ·rename_i hb; simpa using hb
      ·omega
     obtain⟨hpg,hfz⟩:=hpf;obtain⟨p,m⟩:=g9.1 hpg
     have hcls:cls E (.call ⟨.value (.tmp s),d,tys⟩)=1:=by simp[cls,hg,m,hfz]
     have j:∀x∈d.toList,x∈(Op.call ⟨.value (.tmp s),d,tys⟩).operands.toList:=fun x G=>by simp[Op.operands,Call.operands]; exact .inr (by simpa using G)
     have hms:Operand.tmp s∈(Op.call ⟨.value (.tmp s),d,tys⟩).operands.toList:=by simp[Op.operands,Call.operands]
     have he:=OG fun x G=>hx x (j x G)
     have W:VI E t (.call ⟨.value (.tmp s),d,tys⟩)=true:=by
      have h1:=L;unfold nr at h1;rw[I] at h1
      have hb1:Nat.ble 1 (cls E (.call ⟨.value (.tmp s),d,tys⟩))=true:=by rw[hcls]; rfl
      simp only[hb1,dg] at h1;exact h1.2
     simp only[VI,hg] at W
     split at W<;>try (cases W; done)
     rename_i g' T O hfn;simp only[dg,dM] at W;obtain⟨hgg,hna,hnb⟩:=W;have hgg:g'=g:=dz hgg;subst hgg;have hfn2:=(hx _ hms).trans hfn
     have C:∀(S:St),nr E S o.op=true->ev S.t (.tmp s)=.fn (.func g') T O->∀K,iA E call fid path true S nid o K=call path true g' (T++(d.toList.map (ev S.t)++O)) S.h fun v h=>K v {t:=S.t,h:=h}:=fun S Z hSf K=>by
      unfold iA;simp only[Z,Bool.not_true,Bool.and_false];rw[I];simp only[hSf,agj,Bool.and_false]
     rcases k with k|⟨k,hse,hce⟩
     ·exact .no (fun K=>by rw[C _ L hfn]; exact k _ _ _ _ _ _) (fun K=>by rw[C _ z hfn2]; exact k _ _ _ _ _ _)
     have hcap:∀v,(v∈T\/v∈O)->anV v=true->pv h h2 v:=fun v hv hn id hi=>by
      refine hs (by omega) _ hms id ?_;rw[hfn]
      have e1:Go.Am.refs1 v=ahV v:=by cases v<;>first|rfl|cases hn
      simp only[refs2,dl,dG,e1] at hi ⊢
      have hsub:∀i,i∈ahV v->i∈Go.Am.refs1 (.fn (.func g') T O):=fun i hi=>by
       simp only[Go.Am.refs1,dl,dG];exact hv.imp (fun h=>⟨v,h,hi⟩) fun h=>⟨v,h,hi⟩
      rcases hi with hi|⟨i,hi,q⟩
      ·exact .inl (hsub _ hi)
      ·exact .inr ⟨i,hsub _ hi,q⟩
     have hsa:∀a∈T++(d.toList.map (ev t)++O),pv h h2 a:=fun a ha=>by
      rcases dl.1 ha with ha|ha
      ·exact hcap a (.inl ha) (hna a ha)
      ·rcases dl.1 ha with ha|ha
       ·obtain⟨x,G,rfl⟩:=dH.1 ha;exact hs (by omega) x (j x G)
       ·exact hcap a (.inr ha) (hnb a ha)
     have V:∀(h':BY Blk),FX h' p.ts (T++(d.toList.map (ev t)++O))=FX h p.ts (T++(d.toList.map (ev t)++O))->∀(K:AV->BY Blk->BE ρ),
      We (true&&!E.fz g') p h' (T++(d.toList.map (ev t)++O)) K=(match FX h p.ts (T++(d.toList.map (ev t)++O)) with
      |some x=>(p.F x).bind fun y=>match Oc (aci p.rs y) with
       |true=>some (aci p.rs y,([]:BY (Nat×Blk)))
       |false=>match (T++(d.toList.map (ev t)++O)).all (fun a=>!Sd a) with
        |true=>some (aci p.rs y,[])
        |false=>none
      |none=>none).bind fun r=>K r.1 (aps r.2 h'):=fun h' ha K=>by
      unfold We Æ;rw[ha,hfz]
      cases FX h p.ts (T++(d.toList.map (ev t)++O)) with
      |none=>rfl
      |some x =>
       simp only
       cases p.F x with
       |none=>rfl
       |some y =>
        simp only[eY]
        cases Oc (aci p.rs y) with
        |true=>rfl
        |false=>cases(T++(d.toList.map (ev t)++O)).all (fun a=>!Sd a)<;>rfl
     refine⟨_,?_,fun K=>(C _ L hfn K).trans ((k g' p m path true _ h _).trans (V h rfl _)),fun K=>(C _ z hfn2 K).trans (by simp only[he]; exact(k g' p m path true _ h2 _).trans (V h2 (VT hsa) _))⟩;intro r e q hq;exfalso
     cases hA:FX h p.ts (T++(d.toList.map (ev t)++O)) with
     |none=>rw[hA] at e; cases e
     |some x =>
      rw[hA] at e;simp only at e
      cases hF:p.F x with
      |none=>rw[hF] at e; cases e
      |some y =>
       rw[hF] at e;simp only[eY] at e
       split at e
       ·cases e; cases hq
       ·split at e<;>cases e
        cases hq
    |_=>rw[I] at J; simp[cls] at J
   |_=>exact I▸plain fun _ _ _ N=>by rw[I] at N; cases N
  |_=>exact I▸plain fun _ _ _ N=>by rw[I] at N; cases N
def ant {l:BY Operand} (c:∀s∈Ul l,lk t2 s=lk t s):∀x∈l,ev t2 x=ev t x:=by
 induction l with
 |nil=>intro x b; cases b
 |cons y l d =>
  intro x b;rcases dm.1 b with rfl|b
  ·cases x with
   |tmp i=>exact c i (by simp[Ul])
   |_=>rfl
  ·refine d (fun s e=>c s ?_) x b
   cases y<;>simp[Ul,e]
def ad4:∀(t:BY AV) {d c:Nat} (v b:AV),d≠c->upd (upd t d v) c b=upd (upd t c b) d v
 |[],_,_,_,_,_=>rfl
 |_::_,0,0,_,_,h=>absurd rfl h
 |_::_,0,_+1,_,_,_=>rfl
 |_::_,_+1,0,_,_,_=>rfl
 |x::t,d+1,c+1,v,b,h=>by simp only[upd]; rw[ad4 t v b (by omega)]
def Zn:∀(t:BY Blk) {d c:Nat} (v b:Blk),d≠c->Ď (Ď t d v) c b=Ď (Ď t c b) d v
 |[],_,_,_,_,_=>rfl
 |_::_,0,0,_,_,h=>absurd rfl h
 |_::_,0,_+1,_,_,_=>rfl
 |_::_,_+1,0,_,_,_=>rfl
 |x::t,d+1,c+1,v,b,h=>by simp only[Ď]; rw[Zn t v b (by omega)]
def N2 {c b:BE Nat} (hd:∀x,c=some x->b≠some x) (e d:AV):Ā (Ā t c e) b d=Ā (Ā t b d) c e:=by
 cases c with
 |none=>rfl
 |some x=>cases b with
  |none=>rfl
  |some y=>exact ad4 t e d fun h=>hd x rfl (by rw[h])
def zo {d:BE Nat} {s:Nat} (hd:d≠some s) (v:AV):lk (Ā t d v) s=lk t s:=by
 cases d with
 |none=>rfl
 |some x =>
  simp only[Ā,aiP];rw[if_neg];rintro⟨rfl,_⟩;exact hd rfl
def afy:∀{u v:BY (Nat×Blk)} {h:BY Blk},(∀p∈u,∀q∈v,p.1≠q.1)->aps v (aps u h)=aps u (aps v h)
 |[],_,_,_=>rfl
 |p::u,v,h,c=>by
  show aps v (aps u (Ď h p.1 p.2))=aps u (Ď (aps v h) p.1 p.2);rw[afy fun q b=>c q (by simp[b])];congr 1
  have:∀(v:BY (Nat×Blk)) (h:BY Blk),(∀q∈v,p.1≠q.1)->aps v (Ď h p.1 p.2)=Ď (aps v h) p.1 p.2:=by
   intro v
   induction v with
   |nil=>intro h _; rfl
   |cons q v d =>
    intro h b;show aps v (Ď (Ď h p.1 p.2) q.1 q.2)=Ď (aps v (Ď h q.1 q.2)) p.1 p.2;rw[Zn _ _ _ (b q (by simp)),d _ fun r e=>b r (by simp[e])]
  exact this v h (c p (by simp))
def ž (all:BY Oper) (o:Oper) (t:BY AV):BE Bool :=
 match o.guard with
 |none=>some true
 |some (j,want)=>match lk t (qr all j) with
  |.bool b=>some (b==want)
  |.und=>some false
  |_=>none
def zd (E:Env ρ) (all:BY Oper) (o:Oper) (S:St):BY Nat :=
 match ž all o S.t with
 |some true=>C5 E S o.op
 |_=>[]
def yV (E:Env ρ) (call:BY Nat->Bool->Nat->BY AV->BY Blk->(AV->BY Blk->BE ρ)->BE ρ) (fid:Nat) (path:BY Nat) (all:BY Oper) (b:BY Nat) (acc:BY (Nat×BY Nat)) (i nid:Nat) (o:Oper) (S:St) (K:BY Nat->St->BE ρ):BE ρ :=
 match ž all o S.t==some true&&!chk E all b acc i (C5 E S o.op) with
 |true=>none
 |false=>qT E call fid path true all i nid o S (K (zd E all o S))
def aih {E:Env ρ} {call:BY Nat->Bool->Nat->BY AV->BY Blk->(AV->BY Blk->BE ρ)->BE ρ} {fid:Nat} {path:BY Nat} {all:BY Oper} {c:BY Nat} {o:Oper} {os:BY Oper} {i nid:Nat} {acc:BY (Nat×BY Nat)} {S:St} {K:St->BE ρ} :
 aii E call fid path all c (o::os) i nid acc S K=yV E call fid path all c acc i nid o S fun F m=>aii E call fid path all c os (i+1) (bif Ė E.clone o.op then nid+1 else nid) ((i,F)::acc) m K:=by
 have f:∀d b,lk S.t d=.bool b->({t:=upd S.t d (.bool b),h:=S.h}:St)=S:=fun d b hb=>by rw[<-hb,F5]
 have e:∀d b,lk S.t d=.bool b->upd S.t d (.bool b)=S.t:=fun d b hb=>by rw[<-hb,F5]
 simp only[aii,yV,qT,zd,ž]
 cases o.guard with
 |none=>cases chk E all c acc i (C5 E S o.op)<;>rfl
 |some g =>
  obtain⟨j,k⟩:=g;simp only
  cases hb:lk S.t (qr all j)<;>try rfl
  rename_i b;have l:=f _ b hb;have h2:=e _ b hb
  cases b<;>cases k<;>simp only[l,h2]<;>first
   |rfl
   |(cases chk E all c acc i (C5 E S o.op)<;>rfl)
def IB {E:Env ρ} {o:Op} (f:∀x∈o.operands.toList,ev t2 x=ev t x) (i:1<=cls E o->∀x∈o.operands.toList,pv h h2 (ev t x)):C5 E {t:=t2,h:=h2} o=C5 E {t:=t,h:=h} o:=by
 unfold C5
 split
 ·rename_i j;have c:1<=cls E o:=fq j
  have:∀l:BY Operand,(∀x∈l,x∈o.operands.toList)->(l.flatMap fun x=>refs2 h2 (ev t2 x))=l.flatMap fun x=>refs2 h (ev t x):=by
   intro l
   induction l with
   |nil=>intro _; rfl
   |cons x l d =>
    intro b;simp only[dF];rw[f x (b x (by simp)),(i c x (b x (by simp))).refs,d fun y e=>b y (by simp[e])]
  exact this _ fun _ h=>h
 ·rfl
def Lr {all:BY Oper} {o:Oper} (b:∀s∈i6 all o,lk t2 s=lk t s):∀x∈o.op.operands.toList,ev t2 x=ev t x:=ant fun s c=>b s (by simp only[i6,dl]; exact .inr c)
def ju {all:BY Oper} {o:Oper} (c:∀s∈i6 all o,lk t2 s=lk t s):ž all o t2=ž all o t:=by
 unfold ž
 cases d:o.guard with
 |none=>rfl
 |some g =>
  obtain⟨j,b⟩:=g;simp only;rw[c _ (by simp[i6,d])]
def akZ {E:Env ρ} {o:Op} (d:1<=cls E o) (b:nr E {t:=t,h:=h} o=true):∀id∈C5 E {t:=t,h:=h} o,lkB h id≠.dead:=fun id hi hd=>by
 obtain⟨x,e,hi⟩:=(qt d).1 hi;unfold nr at b;have c:Nat.ble 1 (cls E o)=true:=Nat.ble_eq_true_of_le d;simp only[c,Bool.and_eq_true,List.all_eq_true] at b;have:=b.1 x e id hi;rw[hd] at this;cases this
def Nd {E:Env ρ} {call:BY Nat->Bool->Nat->BY AV->BY Blk->(AV->BY Blk->BE ρ)->BE ρ} {fid:Nat} {path:BY Nat} {all:BY Oper} {i nid:Nat} {o:Oper} (I:ρ)
 (A:akM E call) (C:cls E o.op<=2) (q:h2.length=h.length) (G:∀s∈i6 all o,lk t2 s=lk t s)
 (L:ž all o t=some true->1<=cls E o.op->∀x∈o.op.operands.toList,pv h h2 (ev t x)) :
 ∃φ:BE (AV×BY (Nat×Blk)),(∀r,φ=some r->∀p∈r.2,(p.1=nid/\Ė E.clone o.op=true)\/(cls E o.op=2/\p.1∈zd E all o {t:=t,h:=h})) /\
  (∀r,φ=some r->∀id∈zd E all o {t:=t,h:=h},lkB h id≠.dead) /\
  (∀K,qT E call fid path true all i nid o {t:=t,h:=h} K=φ.bind fun r=>K {t:=Ā t o.dst r.1,h:=aps r.2 h}) /\
  ∀K,qT E call fid path true all i nid o {t:=t2,h:=h2} K=φ.bind fun r=>K {t:=Ā t2 o.dst r.1,h:=aps r.2 h2}:=by
 have J:=Lr (t:=t) (t2:=t2) (o:=o) G;have d:=ju (t:=t) (t2:=t2) (o:=o) G
 cases e:ž all o t with
 |none =>
  rw[e] at d
  have:∀(S:St),ž all o S.t=none->∀K,qT E call fid path true all i nid o S K=none:=fun S c K=>by
   unfold ž at c;unfold qT
   cases k:o.guard with
   |none=>rw[k] at c; cases c
   |some g =>
    obtain⟨j,f⟩:=g;rw[k] at c;simp only at c ⊢
    cases hb:lk S.t (qr all j)<;>rw[hb] at c<;>first|rfl|cases c
  exact⟨none,by simp,by simp,fun K=>this _ e K,fun K=>this _ d K⟩
 |some b =>
  cases b with
  |false =>
   rw[e] at d
   have:∀(S:St),ž all o S.t=some false->∀K,qT E call fid path true all i nid o S K=K {t:=Ā S.t o.dst .und,h:=S.h}:=fun S c K=>by
    unfold ž at c;unfold qT
    cases k:o.guard with
    |none=>rw[k] at c; cases c
    |some g =>
     obtain⟨j,f⟩:=g;rw[k] at c;simp only at c ⊢
     cases hb:lk S.t (qr all j)<;>rw[hb] at c<;>first|rfl|(cases c; done)|skip
     simp only[Option.some.injEq] at c ⊢;rw[c]
   refine⟨some (.und,[]),?_,?_,fun K=>this _ e K,fun K=>this _ d K⟩
   ·intro r l p B;cases l;cases B
   ·intro r l id hi;simp only[zd,e] at hi;cases hi
  |true =>
   rw[e] at d
   have m:∀(S:St),ž all o S.t=some true->∀K,qT E call fid path true all i nid o S K=iA E call fid (path++[i]) true S nid o fun v S=>K {t:=Ā S.t o.dst v,h:=S.h}:=fun S c K=>by
    unfold ž at c;unfold qT
    cases k:o.guard with
    |none=>rfl
    |some g =>
     obtain⟨j,f⟩:=g;rw[k] at c;simp only at c ⊢
     cases hb:lk S.t (qr all j)<;>rw[hb] at c<;>first|(cases c; done)|skip
     simp only[Option.some.injEq] at c ⊢;rw[c]
   obtain⟨φ,R,y,O⟩:=anH (fid:=fid) (path:=path++[i]) (nid:=nid) A C q J (L e)
   have u:zd E all o {t:=t,h:=h}=C5 E {t:=t,h:=h} o.op:=by simp only[zd,e]
   refine⟨φ,fun r l p B=>?_,fun r l id hi=>?_,fun K=>by rw[m _ e,y],fun K=>by rw[m _ d,O]⟩
   ·rw[u]; exact R r l p B
   ·rw[u] at hi
    by_cases N:1<=cls E o.op
    ·refine akZ N ?_ id hi
     cases z:nr E {t:=t,h:=h} o.op with
     |true=>rfl
     |false =>
      exfalso;have H:=y fun v S=>some I;rw[l] at H;simp[iA,z] at H
    ·rw[IA (by omega)] at hi;cases hi
def Bt:∀{l m:BY Nat},disj l m=true↔∀x∈l,x∉m
 |[],m=>by simp[disj]
 |x::l,m=>by
  simp only[disj,dg,eO,ee,dm,forall_eq_or_imp,Bt (l:=l)];refine and_congr_left fun _=>⟨fun h c=>h x c (Nat.beq_refl x),fun h y b d=>?_⟩;have:=dz d;subst this;exact h b
structure amQ (E:Env ρ) (all:BY Oper) (bef:BY Nat) (ia ib:Nat) (a b:Oper):Prop where
 ha:all[ia]?=some a
 hb:all[ib]?=some b
 a3:cls E a.op<=2
 b3:cls E b.op<=2\/cls E a.op=0
 rb:∀s∈i6 all b,a.dst≠some s
 ra:∀s∈i6 all a,b.dst≠some s
 dd:∀x,a.dst=some x->b.dst≠some x
 bab:(bef.getD ib 0).testBit ia=false
 bba:(bef.getD ia 0).testBit ib=false
def ajF (E:Env ρ) (o:Op):cls E o<=3:=by
 cases o with
 |call c =>
  obtain⟨f,d,tys⟩:=c
  cases f with
  |value f=>cases f<;>simp only[cls]<;>(repeat' split)<;>omega
  |builtin b=>cases b<;>simp[cls]
  |_=>simp[cls]
 |_=>simp[cls]
def adz {E:Env ρ} {all:BY Oper} {c:BY Nat} {ia ib:Nat} {a b:Oper} (e:al6 E all a b=false) (ha:all[ia]?=some a) (hb:all[ib]?=some b) (r:(c.getD ib 0).testBit ia=false) (h2:(c.getD ia 0).testBit ib=false):amQ E all c ia ib a b:=by
 unfold al6 at e;simp only[Bool.or_eq_false_iff,beq_eq_false_iff_ne] at e;obtain⟨⟨⟨⟨_,y,i⟩,l⟩,k⟩,j⟩:=e;have v:=ajF E a.op;have u:=ajF E b.op
 have f:cls E b.op<=2\/cls E a.op=0:=by
  by_cases q:cls E b.op=3
  ·rw[q] at i;right
   by_cases p:1<=cls E a.op
   ·rw[Nat.ble_eq_true_of_le p] at i; cases i
   ·omega
  ·left; omega
 refine⟨ha,hb,by omega,f,fun s d hd=>?_,fun s d hd=>?_,fun x o m=>?_,r,h2⟩
 ·rw[hd] at l;simp[aly,d] at l
 ·rw[hd] at k;simp[aly,d] at k
 ·rw[o,m] at j;simp at j
def Ge {E:Env ρ} {all:BY Oper} {c:BY Nat} {j i:Nat} {a b:Oper} {e f:BY Nat} (d:Gf E all c j i e f=true) (ha:all[j]?=some a) (hb:all[i]?=some b) (l:(c.getD j 0).testBit i=false) (h2:(c.getD i 0).testBit j=false)
 (k:Et E a.op b.op=true):∀x∈e,x∉f:=by
 unfold Gf at d;simp only[ha,hb,k,l,h2,Bool.not_true,Bool.false_or] at d;exact Bt.1 d
def adA {E:Env ρ} {a b:Op}:Et E a b=Et E b a:=by
 unfold Et; cases cls E a==2<;>cases cls E b==2<;>cases Nat.ble 1 (cls E a)<;>cases Nat.ble 1 (cls E b)<;>rfl
def acz {E:Env ρ} {all:BY Oper} {d:BY Nat} {j i:Nat} {e f:BY Nat} (c:Gf E all d j i e f=true):Gf E all d i j f e=true:=by
 unfold Gf at c ⊢
 cases ha:all[j]? with
 |none=>rw[ha] at c; cases c
 |some a=>cases hb:all[i]? with
  |none=>rw[ha,hb] at c; cases c
  |some b =>
   rw[ha,hb] at c;simp only[Bool.or_eq_true,eO] at c ⊢;rw[adA];rcases c with c|c|c|c
   ·exact .inl c
   ·exact .inr (.inr (.inl c))
   ·exact .inr (.inl c)
   ·exact .inr (.inr (.inr (Bt.2 fun x l k=>Bt.1 c x k l)))
def qP {E:Env ρ} {a b:Op}:Et E a b=true↔(cls E a=2/\1<=cls E b)\/(1<=cls E a/\cls E b=2):=by
 unfold Et;simp only[Bool.or_eq_true,Bool.and_eq_true,beq_iff_eq,Nat.ble_eq]
def qz {E:Env ρ} {all:BY Oper} {b:BY Nat} {acc:BY (Nat×BY Nat)} {p:Nat×BY Nat} {i:Nat} {F:BY Nat}:chk E all b (p::acc) i F=(Gf E all b p.1 i p.2 F&&chk E all b acc i F):=by
 simp[chk]
def Jz {E:Env ρ} {all:BY Oper} {c:BY Nat} {j i:Nat} {a b:Oper} {d:BY Nat} (ha:all[j]?=some a) (hb:all[i]?=some b):Gf E all c j i d []=true:=by
 unfold Gf;simp only[ha,hb,Bool.or_eq_true];exact .inr (.inr (.inr (Bt.2 fun x _=>by simp)))
def Rf {E:Env ρ} {all:BY Oper} {o:Oper} (c:∀s∈i6 all o,lk t2 s=lk t s) (e:ž all o t=some true->1<=cls E o.op->∀x∈o.op.operands.toList,pv h h2 (ev t x)):zd E all o {t:=t2,h:=h2}=zd E all o {t:=t,h:=h}:=by
 unfold zd;simp only[ju (t:=t) (t2:=t2) c]
 cases d:ž all o t with
 |none=>rfl
 |some b=>cases b with
  |false=>rfl
  |true=>exact IB (Lr c) (e d)
def agD {E:Env ρ} {o:Op} (h:cls E o=0):Ė E.clone o=false:=by
 cases o with
 |call c =>
  obtain⟨f,d,tys⟩:=c
  cases f with
  |value f=>cases f<;>simp only[cls] at h<;>(repeat' split at h)<;>first|omega|rfl|(cases h; done)
  |builtin b=>cases b<;>simp[cls] at h
  |_=>simp[cls] at h
 |_=>first|rfl|(simp[cls] at h; done)
def ajG {E:Env ρ} {o:Op} (h:cls E o=0):Vr o=false:=by
 cases o with
 |call c =>
  obtain⟨f,b,tys⟩:=c
  cases f with
  |value f=>cases f<;>simp only[cls] at h<;>(repeat' split at h)<;>first|omega|(cases h; done)
  |_=>rfl
 |_=>rfl
def alf {E:Env ρ} {call:BY Nat->Bool->Nat->BY AV->BY Blk->(AV->BY Blk->BE ρ)->BE ρ} {fid:Nat} {path:BY Nat} {nid:Nat} {o:Oper} (d:cls E o.op=0) :
 ∃φ:BE AV,∀(t2:BY AV) (h2:BY Blk),(∀x∈o.op.operands.toList,ev t2 x=ev t x)->∀K,iA E call fid path true {t:=t2,h:=h2} nid o K=φ.bind fun v=>K v {t:=t2,h:=h2}:=by
 have b:=ajG d;have k:=agD d
 have q:∀S:St,∀K,iA E call fid path true S nid o K=opK E.P S nid false o.op K:=fun S K=>by
  have p:nr E S o.op=true:=by
   unfold nr
   have:Nat.ble 1 (cls E o.op)=false:=by rw[d]; rfl
   rw[this]
  have j:Ua E true fid o=false:=by
   unfold Ua
   cases r:o.op<;>first|rfl|(rw[r] at d; simp[cls] at d; done)
  unfold iA;simp only[p,j,Bool.not_true,Bool.and_false]
  cases i:o.op with
  |call c =>
   obtain⟨f,l,tys⟩:=c;rw[i] at b
   cases f with
   |value f=>cases b
   |_=>rfl
  |_=>rfl
 refine⟨opK E.P {t:=t,h:=[]} nid false o.op fun v _=>some v,fun t2 h2 m K=>?_⟩;rw[q,Wx]
 have:=amW (P:=E.P) (E:=E) (o:=o.op) (nid:=nid) (σ:=AV) (σ2:=AV×St) (t:=t) (t2:=t2) (h:=[]) (h2:=h2) (K:=fun v _=>some v) (K2:=fun v S=>some (v,S)) (R:=fun x y=>y=x.map fun v=>(v,({t:=t2,h:=h2}:St)))
  rfl (by omega) b m (fun u=>by omega) fun v s e=>by
   cases s with
   |none=>rfl
   |some B=>rw[k] at e; exact absurd (e rfl) (by simp)
 unfold opR;rw[this]
 cases opK E.P {t:=t,h:=[]} nid false o.op (fun v _=>some v)<;>rfl
def ahF {E:Env ρ} {call:BY Nat->Bool->Nat->BY AV->BY Blk->(AV->BY Blk->BE ρ)->BE ρ} {fid:Nat} {path:BY Nat} {all:BY Oper} {i nid:Nat} {o:Oper} (m:cls E o.op=0) (t:BY AV) :
 ∃φ:BE AV,∀(t2:BY AV) (h2:BY Blk),(∀s∈i6 all o,lk t2 s=lk t s)->∀K,qT E call fid path true all i nid o {t:=t2,h:=h2} K=φ.bind fun v=>K {t:=Ā t2 o.dst v,h:=h2}:=by
 obtain⟨φ,k⟩:=alf (call:=call) (fid:=fid) (path:=path++[i]) (nid:=nid) (t:=t) m
 cases l:ž all o t with
 |none =>
  refine⟨none,fun t2 h2 f K=>?_⟩;have c:=(ju (t:=t) (t2:=t2) f).trans l;unfold ž at c;unfold qT
  cases e:o.guard with
  |none=>rw[e] at c; cases c
  |some g =>
   obtain⟨j,d⟩:=g;rw[e] at c;simp only at c ⊢
   cases hb:lk t2 (qr all j)<;>rw[hb] at c<;>first|rfl|cases c
 |some b =>
  cases b with
  |false =>
   refine⟨some .und,fun t2 h2 f K=>?_⟩;have c:=(ju (t:=t) (t2:=t2) f).trans l;unfold ž at c;unfold qT
   cases e:o.guard with
   |none=>rw[e] at c; cases c
   |some g =>
    obtain⟨j,d⟩:=g;rw[e] at c;simp only at c ⊢
    cases hb:lk t2 (qr all j)<;>rw[hb] at c<;>first|rfl|(cases c; done)|skip
    simp only[Option.some.injEq] at c ⊢;rw[c];rfl
  |true =>
   refine⟨φ,fun t2 h2 f K=>?_⟩;have c:=(ju (t:=t) (t2:=t2) f).trans l;have p:=k t2 h2 (Lr f);unfold ž at c;unfold qT
   cases e:o.guard with
   |none=>exact p _
   |some g =>
    obtain⟨j,d⟩:=g;rw[e] at c;simp only at c ⊢
    cases hb:lk t2 (qr all j)<;>rw[hb] at c<;>first|(cases c; done)|skip
    simp only[Option.some.injEq] at c ⊢;rw[c];exact p _
def ahS {E:Env ρ} {call:BY Nat->Bool->Nat->BY AV->BY Blk->(AV->BY Blk->BE ρ)->BE ρ} {fid:Nat} {path:BY Nat} {nid:Nat} {o:Oper} (d:cls E o.op=3) (k:∀x∈o.op.operands.toList,ev t2 x=ev t x) (K:AV->St->BE ρ) :
 iA E call fid path true {t:=t2,h:=h} nid o K=iA E call fid path true {t:=t,h:=h} nid o fun v S=>K v {t:=t2,h:=S.h}:=by
 have m:nr E {t:=t2,h:=h} o.op=nr E {t:=t,h:=h} o.op:=RA k fun _ _ _ _ _=>rfl;unfold iA;rw[m]
 cases r:o.op with
 |call c =>
  obtain⟨f,e,tys⟩:=c;rw[r] at k d
  cases f with
  |value f =>
   have u:ev t2 f=ev t f:=k f (by simp[Op.operands,Call.operands]);have i:∀x∈e.toList,ev t2 x=ev t x:=fun x s=>k x (by simp[Op.operands,Call.operands]; exact .inr (by simpa using s));have z:=OG i;simp only[u,z]
   cases j:ev t f with
   |fn g fa fb =>
    cases g with
    |func g =>
     simp only
     cases p:E.clone g&&agj f with
     |false=>rfl
     |true =>
      exfalso;rw[dg] at p
      cases f with
      |func g' =>
       have:g'=g:=by simp only[ev] at j; cases j; rfl
       subst this;simp[cls,p.1] at d
      |_=>simp[agj] at p
    |_=>rfl
   |yld =>
    simp only;rcases q:e.toList with _|⟨x,_|⟨y,l⟩⟩
    ·rfl
    ·simp only; rw[i x (by rw[q]; simp)]
    ·rfl
   |_=>rfl
  |builtin b=>cases b<;>simp[cls] at d
  |_=>rfl
 |_=>rw[r] at d; simp[cls] at d
def afP {E:Env ρ} {call:BY Nat->Bool->Nat->BY AV->BY Blk->(AV->BY Blk->BE ρ)->BE ρ} {fid:Nat} {path:BY Nat} {all:BY Oper} {i nid:Nat} {o:Oper} (l:cls E o.op=3) (e:∀s∈i6 all o,lk t2 s=lk t s) :
 ∃Ψ:(AV->BY Blk->BE ρ)->BE ρ,(∀K,qT E call fid path true all i nid o {t:=t,h:=h} K=Ψ fun v h'=>K {t:=Ā t o.dst v,h:=h'})/\∀K,qT E call fid path true all i nid o {t:=t2,h:=h} K=Ψ fun v h'=>K {t:=Ā t2 o.dst v,h:=h'}:=by
 have key:∀c:BY AV,(∀s∈i6 all o,lk c s=lk t s)->∀K,qT E call fid path true all i nid o {t:=c,h:=h} K=(fun k:AV->BY Blk->BE ρ=>match ž all o t with
  |none=>none
  |some false=>k .und h
  |some true=>iA E call fid (path++[i]) true {t:=t,h:=h} nid o fun v S=>k v S.h) fun v h'=>K {t:=Ā c o.dst v,h:=h'}:=fun c e K=>by
  have f:=ju (t:=t) (t2:=c) (o:=o) e;have m:=ahS (call:=call) (fid:=fid) (path:=path++[i]) (nid:=nid) (h:=h) l (Lr e);rw[<-f];unfold ž qT
  cases q:o.guard with
  |none=>exact m _
  |some g =>
   obtain⟨j,d⟩:=g;simp only
   cases hb:lk c (qr all j) with
   |bool b =>
    simp only
    cases p:b==d with
    |true=>exact m _
    |false=>rfl
   |_=>rfl
 exact⟨fun k:AV->BY Blk->BE ρ=>match ž all o t with
  |none=>none
  |some false=>k .und h
  |some true=>iA E call fid (path++[i]) true {t:=t,h:=h} nid o fun v S=>k v S.h,key t fun _ _=>rfl,key t2 e⟩
def abw {E:Env ρ} {all:BY Oper} {o:Oper} (b:cls E o.op=0) (S:St):zd E all o S=[]:=by
 unfold zd
 split
 ·exact IA b
 ·rfl
def swap0 {E:Env ρ} {call:BY Nat->Bool->Nat->BY AV->BY Blk->(AV->BY Blk->BE ρ)->BE ρ} {fid:Nat} {path:BY Nat} {all:BY Oper} {d:BY Nat} {acc:BY (Nat×BY Nat)} {ia na ib nb:Nat} {a b:Oper} {K:BY Nat->BY Nat->St->BE ρ} {r:ρ}
 (p:amQ E all d ia ib a b) (ha:cls E a.op=0) (hb:cls E b.op=3)
 (e:yV E call fid path all d acc ia na a {t:=t,h:=h} (fun u S=>yV E call fid path all d ((ia,u)::acc) ib nb b S (K u))=some r) :
 yV E call fid path all d acc ib nb b {t:=t,h:=h} (fun G S=>yV E call fid path all d ((ib,G)::acc) ia na a S fun u=>K u G)=some r:=by
 obtain⟨φ,m⟩:=ahF (call:=call) (fid:=fid) (path:=path) (all:=all) (i:=ia) (nid:=na) ha t;unfold yV at e
 split at e<;>try (cases e; done)
 rename_i j;rw[m t h fun _ _=>rfl] at e;obtain⟨q,H,l⟩:=iP e;simp only at l
 split at l<;>try (cases l; done)
 rename_i c;have f:∀s∈i6 all b,lk (Ā t a.dst q) s=lk t s:=fun s A=>zo (p.rb s A) _;obtain⟨Ψ,J,I⟩:=afP (call:=call) (fid:=fid) (path:=path) (all:=all) (i:=ib) (nid:=nb) (h:=h) hb f;rw[I] at l;have y:ž all b (Ā t a.dst q)=ž all b t:=ju f;have B:C5 E {t:=Ā t a.dst q,h:=h} b.op=C5 E {t:=t,h:=h} b.op:=IB (Lr f) fun _ _ _ _ _=>rfl;have C:zd E all b {t:=Ā t a.dst q,h:=h}=zd E all b {t:=t,h:=h}:=Rf f fun _ _ _ _ _ _=>rfl;unfold yV
 split
 ·rename_i x;exfalso;rw[B,y,qz] at c
  cases N:ž all b t==some true<;>rw[N] at x c<;>simp only[Bool.false_and,eR,eO,ft,dA] at x c
  rw[x,Bool.and_false] at c;cases c
 ·rw[J];rw[<-l];congr 1;funext v h';have o:∀s∈i6 all a,lk (Ā t b.dst v) s=lk t s:=fun s A=>zo (p.ra s A) _;have z:ž all a (Ā t b.dst v)=ž all a t:=ju o
  have k:¬((ž all a (Ā t b.dst v)==some true&&!chk E all d ((ib,zd E all b {t:=t,h:=h})::acc) ia (C5 E {t:=Ā t b.dst v,h:=h'} a.op))=true):=by
   rw[z,IA ha,qz,Jz p.hb p.ha,eR];rw[IA ha] at j;exact eP.1 j
  dsimp only
  split
  ·rename_i L; exact absurd L k
  ·rw[m _ _ o,H,eY,abw ha,abw ha,C,N2 p.dd]
def swap {E:Env ρ} {call:BY Nat->Bool->Nat->BY AV->BY Blk->(AV->BY Blk->BE ρ)->BE ρ} {fid:Nat} {path:BY Nat} {all:BY Oper} {m:BY Nat} {acc:BY (Nat×BY Nat)} {ia na ib nb:Nat} {a b:Oper} {K:BY Nat->BY Nat->St->BE ρ} {r:ρ}
 (hpe:akM E call) (j:amQ E all m ia ib a b) (hbd:Ė E.clone b.op=true->lkB h nb=.dead) (hn:Ė E.clone a.op=true->Ė E.clone b.op=true->na≠nb)
 (hfar1:Ė E.clone a.op=true->∀x∈b.op.operands.toList,na∉refs1 (ev t x))
 (hfar:1<=cls E b.op->Ė E.clone a.op=true->(∀p∈acc,∀c,all[p.1]?=some c->Et E c.op b.op=true->(m.getD ib 0).testBit p.1=false->(m.getD p.1 0).testBit ib=false->∀x∈b.op.operands.toList,∀id∈refs1 (ev t x),id∉p.2)->∀x∈b.op.operands.toList,na∉refs2 h (ev t x))
 (e:yV E call fid path all m acc ia na a {t:=t,h:=h} (fun Fa S=>yV E call fid path all m ((ia,Fa)::acc) ib nb b S (K Fa))=some r) :
 yV E call fid path all m acc ib nb b {t:=t,h:=h} (fun Fb S=>yV E call fid path all m ((ib,Fb)::acc) ia na a S fun Fa=>K Fa Fb)=some r:=by
 by_cases hb3:cls E b.op<=2
 case neg =>
  have:=ajF E b.op;exact swap0 j (j.b3.resolve_left hb3) (by omega) e
 -- what a does
 obtain⟨φa,a0,a1,a2,_⟩:=Nd (t:=t) (t2:=t) (h:=h) (h2:=h) (call:=call) (fid:=fid) (path:=path) (i:=ia) (nid:=na) (all:=all) r hpe j.a3 rfl (fun _ _=>rfl) (fun _ _ _ _ _ _=>rfl);unfold yV at e
 split at e<;>try (cases e; done)
 rename_i L;rw[a2] at e;obtain⟨⟨va,W⟩,q1,q2⟩:=iP e;simp only at q2
 split at q2<;>try (cases q2; done)
 rename_i d;have hal1:=a1 _ q1;have hea:=a0 _ q1;simp only at hea
 -- b looks at the same
 have G:∀s∈i6 all b,lk (Ā t a.dst va) s=lk t s:=fun s hs=>zo (j.rb s hs) _;have htb':∀s∈i6 all b,lk t s=lk (Ā t a.dst va) s:=fun s hs=>(G s hs).symm;have O:=Lr G;have hwb:ž all b (Ā t a.dst va)=ž all b t:=ju G
 have C:1<=cls E b.op->ž all b t=some true->chk E all m ((ia,zd E all a {t:=t,h:=h})::acc) ib (C5 E {t:=Ā t a.dst va,h:=aps W h} b.op)=true:=fun _ f=>by
  rw[hwb,f] at d;simpa using d
 have hone:ž all b t=some true->1<=cls E b.op->∀x∈b.op.operands.toList,∀id∈refs1 (ev t x),lkB (aps W h) id=lkB h id:=fun f u x z id hi=>by
  refine VU fun p V k=>?_;rcases hea p V with⟨h2,o⟩|⟨h2,o⟩
  ·exact hfar1 o x z (by rw[<-h2,k]; exact hi)
  ·have H:=C u f;rw[qz,dg] at H;refine Ge H.1 j.ha j.hb j.bba j.bab (qP.2 (.inl ⟨h2,u⟩)) p.1 o ?_;rw[k];refine(qt u).2 ⟨x,z,?_⟩;rw[O x z];simp only[refs2,dl];exact .inl hi
 have hrefs:ž all b t=some true->1<=cls E b.op->∀x∈b.op.operands.toList,refs2 (aps W h) (ev t x)=refs2 h (ev t x):=fun f u x z=>by
  have:∀(l:BY Nat),(∀id∈l,lkB (aps W h) id=lkB h id)->(l.flatMap fun id=>(RL (lkB (aps W h) id)).flatMap ŋ)=l.flatMap fun id=>(RL (lkB h id)).flatMap ŋ:=by
   intro l
   induction l with
   |nil=>intro _; rfl
   |cons y l ih=>intro hl; simp only[dF]; rw[hl y (by simp),ih fun id hi=>hl id (by simp[hi])]
  simp only[refs2];rw[this _ (hone f u x z)]
 have I:ž all b t=some true->1<=cls E b.op->Ė E.clone a.op=true->∀x∈b.op.operands.toList,na∉refs2 h (ev t x):=fun f u h2=>hfar u h2 fun p V c hc1 hc2 hb1 hb2 x z id hi k=>by
  have H:=C u f;rw[qz,dg] at H;have hk2:=dM.1 H.2 p V;refine Ge hk2 hc1 j.hb hb2 hb1 hc2 id k ((qt u).2 ⟨x,z,?_⟩);rw[O x z];simp only[refs2,dl];exact .inl hi
 have B:ž all b t=some true->1<=cls E b.op->∀x∈b.op.operands.toList,pv h (aps W h) (ev t x):=fun f u x z id hi=>by
  refine VU fun p V k=>?_;rcases hea p V with⟨h2,o⟩|⟨h2,o⟩
  ·exact I f u o x z (by rw[<-h2,k]; exact hi)
  ·have H:=C u f;rw[qz,dg] at H;refine Ge H.1 j.ha j.hb j.bba j.bab (qP.2 (.inl ⟨h2,u⟩)) p.1 o ?_;rw[k];refine(qt u).2 ⟨x,z,?_⟩;rw[O x z,hrefs f u x z];exact hi
 -- what b does
 obtain⟨φb,b0,b1,b2,b3⟩:=Nd (t:=t) (t2:=Ā t a.dst va) (h:=h) (h2:=aps W h) (call:=call) (fid:=fid) (path:=path) (i:=ib) (nid:=nb) (all:=all) r hpe hb3 (wt _ _) G B;have hfb:zd E all b {t:=Ā t a.dst va,h:=aps W h}=zd E all b {t:=t,h:=h}:=Rf G B;rw[b3] at q2;obtain⟨⟨vb,eb⟩,q3,q4⟩:=iP q2;simp only at q4;rw[hfb] at q4;have heb:=b0 _ q3;simp only at heb;have hfo:ž all b t=some true->C5 E {t:=Ā t a.dst va,h:=aps W h} b.op=C5 E {t:=t,h:=h} b.op:=fun f=>IB O (B f)
 -- a looks at the same
 have T:∀s∈i6 all a,lk (Ā t b.dst vb) s=lk t s:=fun s hs=>zo (j.ra s hs) _
 have J:Et E a.op b.op=true->∀id∈zd E all a {t:=t,h:=h},id∉zd E all b {t:=t,h:=h}:=fun hcl id hi hj=>by
  unfold zd at hj;simp only at hj
  split at hj
  ·rename_i f
   have u:1<=cls E b.op:=by rcases qP.1 hcl with h|h<;>omega
   have H:=C u f;rw[qz,dg,hfo f] at H;exact Ge H.1 j.ha j.hb j.bba j.bab hcl id hi hj
  ·cases hj
 have v:ž all a t=some true->1<=cls E a.op->∀x∈a.op.operands.toList,pv h (aps eb h) (ev t x):=fun f u x z id hi=>by
  have Y:id∈zd E all a {t:=t,h:=h}:=by
   unfold zd;simp only[f];exact(qt u).2 ⟨x,z,hi⟩
  refine VU fun p V k=>?_;rcases heb p V with⟨h2,o⟩|⟨h2,o⟩
  ·exact hal1 id Y (by rw[<-k,h2]; exact hbd o)
  ·exact J (qP.2 (.inr ⟨u,h2⟩)) id Y (k▸o)
 obtain⟨φa',a0',a1',a2',a3'⟩:=Nd (t:=t) (t2:=Ā t b.dst vb) (h:=h) (h2:=aps eb h) (call:=call) (fid:=fid) (path:=path) (i:=ia) (nid:=na) (all:=all) r hpe j.a3 (wt _ _) T v;have hfa:zd E all a {t:=Ā t b.dst vb,h:=aps eb h}=zd E all a {t:=t,h:=h}:=Rf T v
 have o:qT E call fid path true all ia na a {t:=t,h:=h} (fun S=>K (zd E all a {t:=t,h:=h}) (zd E all b {t:=t,h:=h}) {t:=Ā S.t b.dst vb,h:=aps eb S.h})=some r:=by rw[a2,q1]; exact q4
 rw[a2'] at o;obtain⟨⟨va',ea'⟩,q5,q6⟩:=iP o;simp only at q6;have Z:=a0' _ q5;simp only at Z
 have hcomm:aps eb (aps ea' h)=aps ea' (aps eb h):=afy fun p V q hq U=>by
  rcases Z p V with⟨h2,o⟩|⟨h2,o⟩<;>rcases heb q hq with⟨h4,N⟩|⟨h4,N⟩
  ·exact hn o N (by rw[<-h2,<-h4]; exact U)
  ·-- b would write a's new block
   have f:ž all b t=some true:=by
    unfold zd at N;simp only at N
    split at N
    ·assumption
    ·cases N
   have h5':q.1∈C5 E {t:=t,h:=h} b.op:=by
    unfold zd at N;simp only[f] at N;exact N
   obtain⟨x,z,hi⟩:=(qt (by omega)).1 h5';exact I f (by omega) o x z (by rw[<-h2,U]; exact hi)
  ·exact hal1 p.1 o (by rw[U,h4]; exact hbd N)
  ·exact J (qP.2 (.inl ⟨h2,by omega⟩)) p.1 o (by rw[U]; exact N)
 rw[N2 j.dd,hcomm] at q6
 -- the checks
 have chb:(ž all b t==some true&&!chk E all m acc ib (C5 E {t:=t,h:=h} b.op))=false:=by
  cases f:ž all b t==some true with
  |false=>rfl
  |true =>
   have R:ž all b t=some true:=by simpa using f
   rw[hwb,f] at d;simp only[eR,ft] at d ⊢;rw[qz,dg,hfo R] at d;exact d.2
 have cha:(ž all a (Ā t b.dst vb)==some true&&!chk E all m ((ib,zd E all b {t:=t,h:=h})::acc) ia (C5 E {t:=Ā t b.dst vb,h:=aps eb h} a.op))=false:=by
  rw[ju T]
  cases f:ž all a t==some true with
  |false=>rfl
  |true =>
   have R:ž all a t=some true:=by simpa using f
   rw[f] at L;simp only[eR,ft] at L ⊢;rw[IB (Lr T) (v R),qz,dg];refine⟨acz ?_,L⟩
   have hfa0:zd E all a {t:=t,h:=h}=C5 E {t:=t,h:=h} a.op:=by simp only[zd,R]
   cases A:ž all b t with
   |some wb=>cases wb with
    |true =>
     rw[hwb,A] at d;simp only[beq_self_eq_true,eR,ft] at d;rw[qz,dg,hfo A,hfa0] at d;simp only[zd,A];exact d.1
    |false=>simp only[zd,A]; exact Jz j.ha j.hb
   |none=>simp only[zd,A]; exact Jz j.ha j.hb
 unfold yV;simp only[chb];rw[b2,q3];simp only[Option.bind_some,cha];rw[a3',q5];simp only[Option.bind_some];rw[hfa];exact q6
abbrev Item:=Nat×Nat×Oper
def pJ (clone:Nat->Bool):BY Oper->Nat->Nat->BY Item
 |[],_,_=>[]
 |o::os,i,nid=>(i,nid,o)::pJ clone os (i+1) (bif Ė clone o.op then nid+1 else nid)
def aeg (E:Env ρ) (call:BY Nat->Bool->Nat->BY AV->BY Blk->(AV->BY Blk->BE ρ)->BE ρ) (fid:Nat) (path:BY Nat) (all:BY Oper) (b:BY Nat):BY Item->BY (Nat×BY Nat)->St->(St->BE ρ)->BE ρ
 |[],_,S,K=>K S
 |x::l,acc,S,K=>yV E call fid path all b acc x.1 x.2.1 x.2.2 S fun F S=>aeg E call fid path all b l ((x.1,F)::acc) S K
def aak {E:Env ρ} {call:BY Nat->Bool->Nat->BY AV->BY Blk->(AV->BY Blk->BE ρ)->BE ρ} {fid:Nat} {path:BY Nat} {all:BY Oper} {b:BY Nat}:∀(os:BY Oper) (i nid:Nat) (acc:BY (Nat×BY Nat)) (S:St) (K:St->BE ρ),
 aii E call fid path all b os i nid acc S K=aeg E call fid path all b (pJ E.clone os i nid) acc S K
 |[],_,_,_,_,_=>rfl
 |o::os,i,nid,acc,S,K=>by
  rw[aih];simp only[pJ,aeg];congr 1;funext F S';exact aak os _ _ _ S' K
def al9 {E:Env ρ} {all:BY Oper} {c:BY Nat} {acc b:BY (Nat×BY Nat)} {i:Nat} {F:BY Nat} (h:∀p,p∈acc↔p∈b):chk E all c acc i F=chk E all c b i F:=by
 rw[eQ];simp only[chk,dM]
 exact forall_congr' fun p=>by rw[h p]
def ZH {E:Env ρ} {call:BY Nat->Bool->Nat->BY AV->BY Blk->(AV->BY Blk->BE ρ)->BE ρ} {fid:Nat} {path:BY Nat} {all:BY Oper} {c:BY Nat} {K:St->BE ρ}:∀(l:BY Item) {acc b:BY (Nat×BY Nat)} (S:St),(∀p,p∈acc↔p∈b) ->
 aeg E call fid path all c l acc S K=aeg E call fid path all c l b S K
 |[],_,_,_,_=>rfl
 |x::l,acc,b,S,h=>by
  simp only[aeg,yV];rw[al9 h]
  split
  ·rfl
  ·congr 1;funext S'
   exact ZH l S' fun p=>by simp[h p]
def anj {E:Env ρ} {call:BY Nat->Bool->Nat->BY AV->BY Blk->(AV->BY Blk->BE ρ)->BE ρ} {fid:Nat} {path:BY Nat} {all:BY Oper} {f:BY Nat} {b:Item} {rest:BY Item} {K:St->BE ρ} {r:ρ} {h0:BY Blk} {t0:BY AV}
 (v:akM E call) :
 ∀(as:BY Item) (acc:BY (Nat×BY Nat)) (t:BY AV) (h:BY Blk),(∀a∈as,amQ E all f a.1 b.1 a.2.2 b.2.2)->(∀s∈i6 all b.2.2,lk t s=lk t0 s)->(Ė E.clone b.2.2.op=true->lkB h b.2.1=.dead) ->
  (∀a∈as,Ė E.clone a.2.2.op=true->Ė E.clone b.2.2.op=true->a.2.1≠b.2.1)->(∀a∈as,Ė E.clone a.2.2.op=true->∀x∈b.2.2.op.operands.toList,a.2.1∉refs2 h0 (ev t0 x)) ->
  (1<=cls E b.2.2.op->∀x∈b.2.2.op.operands.toList,∀id∈refs1 (ev t0 x),lkB h id=lkB h0 id\/∃p∈acc,(∃c,all[p.1]?=some c/\Et E c.op b.2.2.op=true/\(f.getD b.1 0).testBit p.1=false/\(f.getD p.1 0).testBit b.1=false)/\id∈p.2) ->
  aeg E call fid path all f (as++b::rest) acc {t:=t,h:=h} K=some r->aeg E call fid path all f (b::(as++rest)) acc {t:=t,h:=h} K=some r
 |[],acc,t,h,_,_,_,_,_,_,e=>e
 |a::as,acc,t,h,L,ht,A,Y,hfar,hinv,e=>by
  have C:=L a (by simp);have m:∀x∈b.2.2.op.operands.toList,ev t x=ev t0 x:=Lr ht
  have H:Ė E.clone a.2.2.op=true->∀x∈b.2.2.op.operands.toList,a.2.1∉refs1 (ev t x):=fun j x k hi=>hfar a (by simp) j x k (by
   rw[m x k] at hi;simp only[refs2,dl]
   exact .inl hi)
  simp only[fi,aeg] at e ⊢
  have fin:=swap (K:=fun R O S=>aeg E call fid path all f (as++rest) ((b.1,O)::(a.1,R)::acc) S K) (r:=r) (t:=t) (h:=h) (acc:=acc) (ia:=a.1) (na:=a.2.1) (ib:=b.1) (nb:=b.2.1) (a:=a.2.2) (b:=b.2.2) (fid:=fid) (path:=path) v C A (Y a (by simp)) H
   (fun T j V x k=>by
    rw[m x k];have q:∀id∈refs1 (ev t0 x),lkB h id=lkB h0 id:=fun id hi=>(hinv T x k id hi).resolve_right fun⟨p,o,⟨c,c1,c2,c3,c4⟩,d⟩=>V p o c c1 c2 c3 c4 x k id (by rw[m x k]; exact hi) d
    have:refs2 h (ev t0 x)=refs2 h0 (ev t0 x):=by
     have key:∀(l:BY Nat),(∀id∈l,lkB h id=lkB h0 id)->(l.flatMap fun id=>(RL (lkB h id)).flatMap ŋ)=l.flatMap fun id=>(RL (lkB h0 id)).flatMap ŋ:=by
      intro l
      induction l with
      |nil=>intro _; rfl
      |cons y l ih=>intro hl; simp only[dF]; rw[hl y (by simp),ih fun id hi=>hl id (by simp[hi])]
     simp only[refs2];rw[key _ q]
    rw[this]
    exact hfar a (by simp) j x k) ?_
  ·have u:∀(R O:BY Nat) (S:St),aeg E call fid path all f (as++rest) ((b.1,O)::(a.1,R)::acc) S K=aeg E call fid path all f (as++rest) ((a.1,R)::(b.1,O)::acc) S K:=fun R O S=>ZH _ S fun p=>by
    simp only[dm]
    constructor<;>rintro(h|h|h)<;>simp[h]
   simp only[u] at fin;exact fin
  ·-- behind a
   obtain⟨φa,a0,a1,a2,_⟩:=Nd (t:=t) (t2:=t) (h:=h) (h2:=h) (call:=call) (fid:=fid) (path:=path) (i:=a.1) (nid:=a.2.1) (all:=all) r v C.a3 rfl (fun _ _=>rfl) (fun _ _ _ _ _ _=>rfl);unfold yV at e ⊢
   split at e<;>try (cases e; done)
   rename_i I;simp only[I];rw[a2] at e ⊢;obtain⟨⟨va,ea⟩,U,Z⟩:=iP e;rw[U];simp only[eY];have N:=a1 _ U;have z:=a0 _ U;simp only at z Z;refine anj v as _ _ _ (fun c J=>L c (by simp[J])) (fun s hs=>(zo (C.rb s hs) _).trans (ht s hs)) (fun j=>?_) (fun c J=>Y c (by simp[J])) (fun c J=>hfar c (by simp[J])) (fun T x k id hi=>?_) Z
   ·refine(VU fun p o d=>?_).trans (A j);rcases z p o with⟨h2,B⟩|⟨h2,B⟩
    ·exact Y a (by simp) B j (h2.symm.trans d)
    ·exact N p.1 B (by rw[d]; exact A j)
   ·by_cases G:∃p∈ea,p.1=id
    ·obtain⟨p,o,d⟩:=G;rcases z p o with⟨h2,B⟩|⟨h2,B⟩
     ·exfalso;exact H B x k (by rw[m x k,<-h2,d]; exact hi)
     ·exact .inr ⟨(a.1,_),List.mem_cons_self ..,⟨a.2.2,C.ha,qP.2 (.inl ⟨h2,T⟩),C.bab,C.bba⟩,d▸B⟩
    ·have W:lkB (aps ea h) id=lkB h id:=VU fun p o d=>G ⟨p,o,d⟩;rw[W];rcases hinv T x k id hi with h2|⟨p,o,h2⟩
     ·exact .inl h2
     ·exact .inr ⟨p,by simp[o],h2⟩
section
variable {ν:Nat->Value} {w:World}
def VR0.refs {a:AV} {v:Value} (c:VR0 ν h w a v):∀id∈ŋ a,lkB h id≠.dead:=by
 intro id hi hd
 cases a<;>simp only[ŋ,dq,ir] at hi
 ·subst hi; obtain⟨_,t,g',fz,xs,b,_⟩:=c; rw[hd] at b; cases b
 ·subst hi; obtain⟨_,t,g',fz,xs,b,_⟩:=c; rw[hd] at b; cases b
 ·subst hi; obtain⟨_,t,g',fz,b,_⟩:=c; rw[hd] at b; cases b
 ·subst hi; obtain⟨_,_,b,_⟩:=c; rw[hd] at b; cases b
 ·subst hi; obtain⟨_,t,g',fz,xs,b,_⟩:=c; rw[hd] at b; cases b
def VR1.refs {a:AV} {v:Value} (b:VR1 ν h w a v):∀id∈ŋ a,lkB h id≠.dead:=by
 cases c:a.isFn with
 |true=>cases a<;>first|(cases c; done)|(intro id hi; cases hi)
 |false=>rw[yU c] at b; exact b.refs
def Ĕ.left_mem {α β:Type} {R:α->β->Prop}:∀{l:BY α} {m:BY β},Ĕ R l m->∀a∈l,∃b∈m,R a b
 |[],_,_,a,ha=>by cases ha
 |x::l,y::m,h,a,ha=>by
  rcases dm.1 ha with rfl|ha
  ·exact⟨y,by simp,h.1⟩
  ·obtain⟨b,hb,c⟩:=Ĕ.left_mem h.2 a ha;exact⟨b,by simp[hb],c⟩
 |_::_,[],h,_,_=>h.elim
def VR.refs1 {a:AV} {v:Value} (j:VR ν h w a v):∀id∈Go.Am.refs1 a,lkB h id≠.dead:=by
 cases d:a.isAgg with
 |true =>
  cases a<;>try cases d
  obtain⟨us,_,h2⟩:=j;intro id hi;simp only[Go.Am.refs1,dG] at hi;obtain⟨c,i,hi⟩:=hi;obtain⟨u,_,b⟩:=h2.left_mem c i;exact b.1.refs id hi
 |false =>
  cases e:a.isTup with
  |true=>cases a<;>first|(cases e; done)|(intro id hi; cases hi)
  |false =>
   have k:=j.one d e;have h2:=k.refs
   cases a with
   |fn f fa fb =>
    obtain⟨fs,cs,_,m,l⟩:=k
    have one:∀c u,VR0 ν h w c u->∀id∈ahV c,lkB h id≠.dead:=fun c u b id hi=>by
     cases c with
     |agg=>exact b.elim
     |_=>exact b.refs id hi
    intro id hi;simp only[Go.Am.refs1,dl,dG] at hi;rcases hi with⟨c,i,hi⟩|⟨c,i,hi⟩
    ·obtain⟨u,_,b⟩:=m.left_mem c i;exact one c u b id hi
    ·obtain⟨u,_,b⟩:=l.left_mem c i;exact one c u b id hi
   |agg=>cases d
   |_=>exact h2
def VR.refs2 (H:HR ν h w) {a:AV} {v:Value} (k:VR ν h w a v):∀id∈Go.Am.refs2 h a,lkB h id≠.dead:=by
 intro id hi;simp only[Go.Am.refs2,dl,dG] at hi;rcases hi with hi|⟨j,p,c,d,hi⟩
 ·exact k.refs1 id hi
 ·have i:=H.blk j
  cases f:lkB h j with
  |cells cs =>
   rw[f] at i d;obtain⟨b,o,e,_,_,m⟩:=i;obtain⟨u,_,l⟩:=m.left_mem c d;exact l.1.refs id hi
  |_=>rw[f] at d; cases d
end
end
end Go.Am
end

noncomputable section
namespace Go.Am
variable [Ghost]
section
variable {ρ:Type} {ν:Nat->Value} {h:BY Blk} {w:World}
def akm (acc:BY Nat) (o:Oper):Nat:=o.after.toList.foldl (fun s e=>if Region.binds .any e then s ||| 2 ^ e.on ||| acc.getD e.on 0 else s) 0
def K4:∀(os:BY Oper) (acc:BY Nat),∃l,Γ os acc=acc++l/\∀(k:Nat) (o:Oper),os[k]?=some o->(acc++l).getD (acc.length+k) 0=akm ((acc++l).take (acc.length+k)) o
 |[],acc=>⟨[],by simp[Γ],by simp⟩
 |o::os,acc=>by
  obtain⟨l,c,h2⟩:=K4 os (acc++[akm acc o]);refine⟨akm acc o::l,?_,?_⟩
  ·simp only[Γ];show Γ os (acc++[akm acc o])=_;rw[c]; simp
  ·intro k o' b
   cases k with
   |zero =>
    simp only[fX,Option.some.injEq] at b;subst b;simp[List.getD]
   |succ k =>
    have:=h2 k o' (by simpa using b);simp only[dp,List.singleton_append,di,dS] at this;rw[show acc.length+(k+1)=acc.length+1+k by omega];exact this
def akl {os:BY Oper} {k:Nat} {o:Oper} (b:os[k]?=some o):(Γ os []).getD k 0=akm ((Γ os []).take k) o:=by
 obtain⟨l,c,h2⟩:=K4 os [];rw[c];simpa using h2 k o b
def Yx {acc:BY Nat} {i:Nat}:∀(es:BY Edge) (s:Nat),(es.foldl (fun s e=>if Region.binds .any e then s ||| 2 ^ e.on ||| acc.getD e.on 0 else s) s).testBit i=true ->
 s.testBit i=true\/∃e∈es,Region.binds .any e=true/\(i=e.on\/(acc.getD e.on 0).testBit i=true)
 |[],s,h=>.inl h
 |e::es,s,h=>by
  simp only[gD] at h;rcases Yx es _ h with b|⟨d,c,b⟩
  ·split at b
   ·rename_i hb;simp only[Nat.testBit_or,Bool.or_eq_true,Nat.testBit_two_pow,decide_eq_true_eq] at b;rcases b with(b|b)|b
    ·exact .inl b
    ·exact .inr ⟨e,by simp,hb,.inl b.symm⟩
    ·exact .inr ⟨e,by simp,hb,.inr b⟩
   ·exact .inl b
  ·exact .inr ⟨d,by simp[c],b⟩
def Bs {E:Env ρ} {all:BY Oper} {e:BY Nat}:∀{bs:BY Oper} {c:Nat},Cy E all e bs c=true->∀(k:Nat) (b:Oper),bs[k]?=some b->∀(i:Nat) (a:Oper),i<c+k->all[i]?=some a->al6 E all a b=false\/(e.getD (c+k) 0).testBit i=true
 |[],_,_,k,b,d,_,_,_,_=>by simp at d
 |x::bs,c,h,k,b,d,i,a,hi,ha=>by
  simp only[Cy,dg,dM,fj] at h
  cases k with
  |zero =>
   simp only[fX,Option.some.injEq] at d;subst d;have:=h.1 i (by omega);rw[ha] at this;simp only[Bool.or_eq_true,eO] at this;simpa using this
  |succ k =>
   have:=Bs h.2 k b (by simpa using d) i a (by omega) ha
   rwa [show c+1+k=c+(k+1) by omega] at this
def yE:∀{os:BY Oper} {j:Nat},ab0 os j=true->∀(k:Nat) (o:Oper),os[k]?=some o->∀e∈o.after,Region.binds .any e=true->e.on<j+k
 |[],_,_,k,o,b,_,_,_=>by simp at b
 |x::os,j,h,k,o,b,e,c,hb=>by
  simp only[ab0,dg,dM] at h
  cases k with
  |zero =>
   simp only[fX,Option.some.injEq] at b;subst b;have:=h.1 e (by simpa using c);simp only[hb,dU,Bool.false_or,decide_eq_true_eq] at this;omega
  |succ k =>
   have:=yE h.2 k o (by simpa using b) e c hb;omega
def bef_lt {os:BY Oper} (hb:ab0 os 0=true):∀(j i:Nat),((Γ os []).getD j 0).testBit i=true->i<j:=by
 intro j
 induction j using Nat.strongRecOn with
 |ind j e =>
  intro i hi
  cases d:os[j]? with
  |none =>
   obtain⟨l,k,_⟩:=K4 os []
   have c:∀(os:BY Oper) (acc:BY Nat),(Γ os acc).length=acc.length+os.length:=by
    intro os
    induction os with
    |nil=>intro acc; simp[Γ]
    |cons o os e=>intro acc; simp only[Γ]; rw[e]; simp; omega
   have:(Γ os [])[j]?=none:=by
    rw[List.getElem?_eq_none_iff] at d ⊢;rw[c]; simpa using d
   simp[List.getD,this] at hi
  |some o =>
   rw[akl d] at hi;rcases Yx _ _ hi with m|⟨ed,k,h2,f⟩
   ·simp at m
   ·have b:=yE hb j o d ed (by simpa using k) h2;rw[dQ] at b;rcases f with rfl|f
    ·exact b
    ·have:((Γ os []).getD ed.on 0).testBit i=true:=by
      rw[<-f];congr 1;simp only[List.getD,eF];rw[if_pos (by omega)]
     exact Nat.lt_trans (e ed.on b i this) b
def rW {clone:Nat->Bool}:∀{os:BY Oper} {i nid:Nat} {x:Item},x∈pJ clone os i nid->∃k,os[k]?=some x.2.2/\x.1=i+k/\nid<=x.2.1/\(Ė clone x.2.2.op=true->x.2.1<nid+i9 clone os)
 |[],_,_,_,c=>by cases c
 |o::os,i,nid,x,c=>by
  simp only[pJ,dm] at c;rcases c with rfl|c
  ·exact⟨0,by simp,rfl,dh _,fun h=>by rw[oE]; simp only at h; rw[h]; simp⟩
  ·obtain⟨k,f,h2,d,e⟩:=rW c;refine⟨k+1,by simpa using f,by omega,?_,fun h=>?_⟩
   ·cases b:Ė clone o.op<;>rw[b] at d<;>simp at d<;>omega
   ·have:=e h;rw[oE]
    cases b:Ė clone o.op<;>rw[b] at this<;>simp at this ⊢<;>omega
def Il {clone:Nat->Bool}:∀{os:BY Oper} {i nid k:Nat} {o:Oper},os[k]?=some o->∃n,(i+k,n,o)∈pJ clone os i nid
 |[],_,_,k,_,h=>by simp at h
 |x::os,i,nid,0,o,h=>by
  simp only[fX,Option.some.injEq] at h;subst h;exact⟨nid,by simp[pJ]⟩
 |x::os,i,nid,k+1,o,h=>by
  obtain⟨n,b⟩:=Il (clone:=clone) (i:=i+1) (nid:=bif Ė clone x.op then nid+1 else nid) (os:=os) (k:=k) (o:=o) (by simpa using h);exact⟨n,by simp only[pJ,dm]; right; rwa [show i+(k+1)=i+1+k by omega]⟩
def KH {clone:Nat->Bool}:∀{os:BY Oper} {i nid:Nat},(pJ clone os i nid).Pairwise fun x y=>x.1<y.1/\(Ė clone x.2.2.op=true->x.2.1<y.2.1)
 |[],_,_=>List.Pairwise.nil
 |o::os,i,nid=>by
  refine List.Pairwise.cons (fun y d=>?_) KH;obtain⟨k,_,h2,c,_⟩:=rW d;refine⟨by simp only; omega,fun b=>?_⟩;simp only at b;rw[b] at c;simp at c ⊢;omega
def agu {l:BY Item} {p e:Item->Bool} {b:Item} (k:l.Pairwise fun x y=>x.1<y.1) (hb:b∈l) (j:p b=true) (d:∀x∈l,e x=(p x&&x.1 != b.1)) :
 ∃as rest,l.filter p=as++b::rest/\l.filter e=as++rest/\∀a∈as,a∈l/\p a=true/\a.1<b.1:=by
 obtain⟨i,f,rfl⟩:=List.append_of_mem hb;rw[gM] at k;obtain⟨_,h2,q⟩:=k;have m:∀x∈i,x.1<b.1:=fun x c=>q x c b (by simp);have o:∀x∈f,b.1<x.1:=fun x c=>(dN.1 h2).1 x c;refine⟨i.filter p,f.filter p,by simp[j],?_,fun a ha=>?_⟩
 ·have u:i.filter e=i.filter p:=List.filter_congr fun x c=>by
   rw[d x (by simp[c])]
   have:(x.1 != b.1)=true:=by have:=m x c; simp; omega
   rw[this]; simp
  have s:f.filter e=f.filter p:=List.filter_congr fun x c=>by
   rw[d x (by simp[c])]
   have:(x.1 != b.1)=true:=by have:=o x c; simp; omega
   rw[this]; simp
  have r:e b=false:=by rw[d b (by simp)]; simp
  simp[u,s,r]
 ·rw[d8] at ha;exact⟨by simp[ha.1],ha.2,m a ha.1⟩
def aer {α:Type} {R:α->α->Prop}:∀{l:BY α},l.Pairwise R->∀x∈l,∀y∈l,x=y\/R x y\/R y x
 |[],_,_,c,_,_=>by cases c
 |z::l,h,x,c,y,b=>by
  rw[dN] at h;rcases dm.1 c with c|c
  ·rcases dm.1 b with b|b
   ·exact .inl (c.trans b.symm)
   ·rw[c]; exact .inr (.inl (h.1 y b))
  ·rcases dm.1 b with b|b
   ·rw[b]; exact .inr (.inr (h.1 x c))
   ·exact aer h.2 x c y b
def al1 {E:Env ρ} {call:BY Nat->Bool->Nat->BY AV->BY Blk->(AV->BY Blk->BE ρ)->BE ρ} {L:Nat} (hE:nh E L call) {fid:Nat} {path:BY Nat} {d:Array Oper} (hp:path.length+1=L) (hg:uu d.toList d.toList=true)
 (hd:ajq E d.toList=true) {base:Nat} {K:St->BE ρ} {r:ρ} {Q:Exit->Act->World->Prop} {m:Nat} (hmb:m<=base) :
 ∀(B:Nat) (c:Array Bool) (acc:BY (Nat×BY Nat)) (S:St) (a:Act) (ν:Nat->Value) (w:World),c.size=d.size ->
  (∀j i,c.getD j false=true->((Γ d.toList []).getD j 0).testBit i=true->c.getD i false=true) ->
  ((pJ E.clone d.toList 0 base).filter fun x=>!c.getD x.1 true).length=B->Sim ν S a w ->
  (∀x∈(pJ E.clone d.toList 0 base).filter fun x=>!c.getD x.1 true,Ė E.clone x.2.2.op=true->x.2.1<S.h.length/\lkB S.h x.2.1=.dead)->m<=S.h.length ->
  aeg E call fid path d.toList (Γ d.toList []) ((pJ E.clone d.toList 0 base).filter fun x=>!c.getD x.1 true) acc S K=some r ->
  (∀ν' Y a' w',Sim ν' Y a' w'->Ev m ν S.h w ν' Y.h w'->m<=Y.h.length->Dd m S.h Y.h->K Y=some r->Q .normal a' w') ->
  wpAnyIn fen 0 E.P .any d Q B c a w:=by
 simp only[ajq,dg] at hd;obtain⟨G,hdr⟩:=hd
 have A:∀{c:Array Bool} {j:Nat},c.size=d.size->j<d.size->c.getD j true=c.getD j false:=fun {c j} hs hj=>by
  have:j<c.size:=by omega
  simp[this]
 have hpw:=(KH (clone:=E.clone) (os:=d.toList) (i:=0) (nid:=base)).imp fun {x y} h=>h.1;intro B
 induction B with
 |zero =>
  intro c acc S a ν w R hcl z H q hm e hQ;have Z:=dJ.1 z;refine⟨?_,?_⟩
  ·rw[List.eq_nil_iff_forall_not_mem];intro j hj;obtain⟨h0,o,ho,_⟩:=mem_ready.1 hj;obtain⟨n,hn⟩:=Il (clone:=E.clone) (i:=0) (nid:=base) (os:=d.toList) (k:=j) (o:=o) (by simpa using ho);have:(0+j,n,o)∈(pJ E.clone d.toList 0 base).filter fun x=>!c.getD x.1 true:=d8.2 ⟨hn,by simp only[dQ]; rw[h0]; rfl⟩;rw[Z] at this;cases this
  ·rw[Z] at e;exact hQ ν S a w H (Ev.refl _ _ _ _) hm (Dd.refl _ _) e
 |succ B ih =>
  intro c acc S a ν w R hcl z H q hm e hQ;refine⟨fun hr=>?_,fun j hj=>?_⟩
  ·-- the first of those that are left is ready
   exfalso
   cases f:(pJ E.clone d.toList 0 base).filter fun x=>!c.getD x.1 true with
   |nil=>rw[f] at z; simp at z
   |cons x l =>
    have p:x∈(pJ E.clone d.toList 0 base).filter fun x=>!c.getD x.1 true:=by rw[f]; simp
    rw[d8] at p;obtain⟨k,s,h2,_⟩:=rW p.1
    have hk:x.1=k:=by omega
    have I:x.1∈Region.ready .any d c:=mem_ready.2 ⟨by simpa using p.2,x.2.2,by rw[hk]; simpa using s,fun ed hed hb=>by
     have hlt:=yE G k x.2.2 s ed hed hb
     have hks:k<d.size:=by
      have:=(dj.1 s).1;simpa using this
     cases hl:c.getD ed.on false with
     |true=>rfl
     |false =>
      exfalso;obtain⟨o',ho'⟩:∃o',d.toList[ed.on]?=some o':=⟨_,df (by simp; omega)⟩;obtain⟨n,hn⟩:=Il (clone:=E.clone) (i:=0) (nid:=base) ho'
      have V:(0+ed.on,n,o')∈x::l:=by
       rw[<-f];refine d8.2 ⟨hn,?_⟩;simp only[dQ];rw[A R (by omega),hl];rfl
      have hpl:(x::l).Pairwise fun x y=>x.1<y.1:=by rw[<-f]; exact hpw.filter _
      rcases dm.1 V with W|W
      ·rw[<-W] at hk; simp at hk; omega
      ·have:=(dN.1 hpl).1 _ W
       simp only at this; omega⟩
    rw[hr] at I;cases I
  ·obtain⟨h0,o,ho,hed⟩:=mem_ready.1 hj;have hjs:j<d.size:=(fG.1 ho).1
   have O:d.toList[j]?=some o:=by simpa using ho
   obtain⟨n,hn⟩:=Il (clone:=E.clone) (i:=0) (nid:=base) O;rw[dQ] at hn
   have hpp:∀x∈pJ E.clone d.toList 0 base,(fun x:Item=>!(c.setIfInBounds j true).getD x.1 true) x=((fun x:Item=>!c.getD x.1 true) x&&x.1 != j):=fun x p=>by
    by_cases N:x.1=j
    ·simp only[N]
     have:j<c.size:=by omega
     simp[this]
    ·have s:(c.setIfInBounds j true).getD x.1 true=c.getD x.1 true:=getD_set_ne true (Ne.symm N)
     have h2:(x.1 != j)=true:=by simpa using N
     simp only[s,h2,Bool.and_true]
   obtain⟨as,rest,f1,f2,f3⟩:=agu (b:=(j,n,o)) hpw hn (by simp only[h0]; rfl) hpp
   have hbit:∀i,((Γ d.toList []).getD j 0).testBit i=true->c.getD i false=true:=fun i hi=>by
    rw[akl O] at hi;rcases Yx _ _ hi with hz|⟨ed,s,h2,W⟩
    ·simp at hz
    ·have hl:=hed ed (by simpa using s) h2;rcases W with rfl|W
     ·exact hl
     ·refine hcl ed.on i hl ?_;have hlt:=yE G j o O ed (by simpa using s) h2;rw[<-W];congr 1;simp only[List.getD,eF];rw[if_pos (by omega)]
   have T:=KH (clone:=E.clone) (os:=d.toList) (i:=0) (nid:=base)
   have C:((j,n,o):Item)∈(pJ E.clone d.toList 0 base).filter fun x=>!c.getD x.1 true:=by rw[f1]; simp
   have hne:∀x∈(pJ E.clone d.toList 0 base).filter (fun x=>!c.getD x.1 true),x≠(j,n,o)->Ė E.clone x.2.2.op=true->Ė E.clone o.op=true->x.2.1≠n:=fun x p N s h2=>by
    have hsub:((pJ E.clone d.toList 0 base).filter fun x=>!c.getD x.1 true).Pairwise fun x y=>x.1<y.1/\(Ė E.clone x.2.2.op=true->x.2.1<y.2.1):=T.filter _;rcases aer hsub x p _ C with he|hr|hr
    ·exact absurd he N
    ·exact gK (hr.2 s)
    ·exact(gK (hr.2 h2)).symm
   rw[f1] at e
   have e':=anj (b:=(j,n,o)) (h0:=S.h) (t0:=S.t) (K:=K) (r:=r) hE.pureEq as acc S.t S.h (fun x p=>by
    obtain⟨g1,g2,g3⟩:=f3 x p;obtain⟨k,s,h2,_⟩:=rW g1
    have hk:x.1=k:=by omega
    have hkj:k<j:=by simp only at g3; omega
    have hnb:((Γ d.toList []).getD j 0).testBit k=false:=by
     cases hb:((Γ d.toList []).getD j 0).testBit k with
     |false=>rfl
     |true =>
      exfalso;have hl:=hbit k hb;simp only[eO] at g2;rw[A R (by omega),hk,hl] at g2;cases g2
    have hnb2:((Γ d.toList []).getD k 0).testBit j=false:=by
     cases hb:((Γ d.toList []).getD k 0).testBit j with
     |false=>rfl
     |true=>have:=bef_lt G k j hb; omega
    have:=Bs hdr j o O k x.2.2 (by omega) s;rw[dQ,hnb] at this;rw[<-hk] at s hnb hnb2
    exact adz (this.resolve_right (by simp)) s O hnb hnb2)
    (fun _ _=>rfl)
    (fun J=>(q _ C J).2)
    (fun x p s h2=>hne x (by rw[f1]; simp[p]) (fun he=>by
     have:=(f3 x p).2.2;rw[he] at this
     simp at this) s h2)
    (fun x p s y hy hmem=>VR.refs2 H.heap (Ō H y) _ hmem ((q x (by rw[f1]; simp[p]) s).2)) (fun _ _ _ _ _=>.inl rfl) e
   simp only[aeg,yV] at e'
   split at e'<;>try (cases e'; done)
   refine NW hE.call hE.plain hE.clone hE.yld hg hp ho H (fun J=>q _ C J) e' fun ν' w' u v Y g1 g2 g3 g4 g5 g6 g7=>?_;have f:((pJ E.clone d.toList 0 base).filter fun x=>!(c.setIfInBounds j true).getD x.1 true)=as++rest:=f2
   have V:∀x∈as++rest,x∈(pJ E.clone d.toList 0 base).filter fun x=>!c.getD x.1 true:=fun x p=>by
    rw[f1]
    rcases dl.1 p with p|p<;>simp[p]
   have hnj:∀x∈as++rest,x≠(j,n,o):=fun x p he=>by
    rw[<-f,d8] at p;rw[he] at p
    have hlt:j<c.size:=by omega
    simp[hlt] at p
   have hm':m<=Y.h.length:=dE hm g4;refine ih (c.setIfInBounds j true) ((j,zd E d.toList o S)::acc) {t:=Ā Y.t o.dst v,h:=Y.h} _ ν' w' (by simpa using R) (fun j' i s h2=>?_) ?_ ?_ (fun x p J=>?_) hm' ?_ fun ν'' S'' a'' w'' q1 q2 q3 q4 q5=>hQ ν'' S'' a'' w'' q1 ((g3.mono hm).trans q2 (dh _)) q3 (fun i hi hdi=>q4 i hi ?_) q5
   ·by_cases hjj:j=j'
    ·subst hjj;exact getD_set_true (hbit i h2)
    ·rw[getD_set_ne false hjj] at s;exact getD_set_true (hcl j' i s h2)
   ·rw[f];rw[f1] at z;simp only[di,dr] at z ⊢;omega
   ·rw[g6];exact H.put g3 g2 o.dst g1
   ·rw[f] at p;obtain⟨s,h2⟩:=q x (V x p) J;refine⟨by simp only; omega,g5 _ s ?_ h2⟩
    by_cases U:Ė E.clone o.op=true
    ·exact .inl (hne x (V x p) (hnj x p) J U)
    ·exact .inr (by simpa using U)
   ·rw[f];exact g7
   ·refine g5 i (by omega) ?_ hdi
    by_cases U:Ė E.clone o.op=true
    ·left;obtain⟨k,_,_,W,_⟩:=rW hn;simp only at W;show i≠n;omega
    ·exact .inr (by simpa using U)
def ob {E:Env ρ} (hmix:E.P.follows .mixedOrders=true) (L:Nat) (call:BY Nat->Bool->Nat->BY AV->BY Blk->(AV->BY Blk->BE ρ)->BE ρ) (C:nh E L call):wP E L call:=by
 intro fid rid path b S a K r m ν w z e H A;unfold N7 at e
 split at e<;>try (cases e; done)
 rename_i s;simp only[eR,gN,ft] at s;apply wpIn_region_any hmix;have c:=fun id=>Yi S.h (i9 E.clone b.toList) id;have V:Sim ν {t:=S.t,h:=S.h++List.replicate (i9 E.clone b.toList) .dead} a {w with drawn:=w.drawn+1}:=H.same c rfl rfl rfl rfl;have v:Ev m ν S.h w ν (S.h++List.replicate (i9 E.clone b.toList) .dead) {w with drawn:=w.drawn+1}:=Ev.same (w:=w) (w':={w with drawn:=w.drawn+1}) c rfl rfl rfl rfl m
 have d:((pJ E.clone b.toList 0 S.h.length).filter fun x=>!(Array.replicate b.size false).getD x.1 true)=pJ E.clone b.toList 0 S.h.length:=by
  rw[gQ];intro x l;obtain⟨k,p,h2,_⟩:=rW l
  have q:k<b.size:=by
   have:=(dj.1 p).1;simpa using this
  have:x.1=k:=by omega
  simp[this,q]
 have f:∀(os:BY Oper) (i nid:Nat),(pJ E.clone os i nid).length=os.length:=by
  intro os
  induction os with
  |nil=>intros; rfl
  |cons o os y=>intro i nid; simp[pJ,y]
 refine al1 (fid:=fid) (base:=S.h.length) (K:=K .normal) (r:=r) C z s.2 s.1 A b.size _ [] {t:=S.t,h:=S.h++List.replicate (i9 E.clone b.toList) .dead} a ν _ (by simp) (fun j i p _=>?_) ?_ V (fun x l u=>?_) ?_ ?_ fun ν' U W w' T R O N J=>⟨ν',U,T,v.trans R (dh _),O,fun j B hd=>N j B (by simp only[c]; exact hd),J⟩
 ·exfalso;rcases dv j b.size with h|h
  ·simp[h] at p
  ·simp[h] at p
 ·rw[d,f]; simp
 ·rw[d] at l;obtain⟨k,_,_,I,G⟩:=rW l;have:=G u;refine⟨by simp; omega,?_⟩;simp only[c];exact abh _ _ I
 ·simp; omega
 ·rw[d,<-aak];exact e
end
end Go.Am
end
