/- lemmas -/
import Derived.Test.YtenljaeklhlanaaGreatAmA
import Derived.OrdersIn
import Derived.RangeFuncSeq
import Derived.RangeFuncRecord
import Derived.LoopNIn
import Derived.RangeFuncLeaves
set_option linter.all false
noncomputable section
namespace Go.Am
variable [Ghost]
section
variable {ν ν':Nat->Value} {w w':World} {P:Program}
def agD (ν:Nat->Value) (S:St) (w:World) (r:Result Next) (v:AV) (b:St):Prop :=
 ∃ν' w' u,(r=.ok (.value u) w'\/(r=.ok .skip w'/\u=undef))/\VR ν' b.h w' v u/\HR ν' b.h w'/\Ev S.h.length ν S.h w ν' b.h w'/\b.h.length=S.h.length/\b.t=S.t
def jA.step {S:St} {x:Sem Value} {v:AV} {h':CK Blk} (hd:jA P ν S.h w x v h') :
 agD ν S w ((do let u <-x; pure (.value u):Sem Next).run P w) v {t:=S.t,h:=h'}:=by
 obtain⟨ν',w',u,e,h2,d,c,b⟩:=hd;refine⟨ν',w',u,.inl ?_,h2,d,c,b,rfl⟩;simp[e]
def agD.still {S:St} {r:Result Next} {v:AV} {u:Value} (H:HR ν S.h w) (c:r=.ok (.value u) w) (b:VR ν S.h w v u):agD ν S w r v S :=
 ⟨ν,w,u,.inl c,b,H,Ev.refl _ _ _ _,rfl,rfl⟩
def XP {S:St} {x:Sem Unit} {h':CK Blk} (hd:∃w',x.run P w=.ok () w'/\HR ν h' w'/\Ev S.h.length ν S.h w ν h' w'/\h'.length=S.h.length) :
 agD ν S w ((do x; pure .skip:Sem Next).run P w) .any {t:=S.t,h:=h'}:=by
 obtain⟨w',e,d,c,b⟩:=hd;refine⟨ν,w',undef,.inr ⟨?_,rfl⟩,trivial,d,c,b,rfl⟩;simp[e]
def aiO {a:AV} {v:Value} {h:CK Blk} (hi:isV0 a=true) (b:VR ν h w a v):VR0 ν h w a v:=by
 have d:a.isFn=false:=by cases a<;>first|rfl|cases hi
 have h2:a.isAgg=false:=by cases a<;>first|rfl|cases hi
 have c:a.isTup=false:=by cases a<;>first|rfl|cases hi
 rwa [zq c,BU h2,zd d] at b
def ĕ.of_map {α β γ:Type} {R:β->γ->Prop} {f:α->β} {g:α->γ}:∀{l:CK α},(∀x∈l,R (f x) (g x))->ĕ R (l.map f) (l.map g)
 |[],_=>trivial
 |x::l,h=>⟨h x (by simp),ĕ.of_map fun y b=>h y (by simp[b])⟩
def ak4 (k:IntKind) (a b:Int):(Builtin.max2 (.int k a) (.int k b)).run P w=.ok (.int k (SP a b)) w:=rfl
def ak3 (k:IntKind) (a b:Int):(Builtin.min2 (.int k a) (.int k b)).run P w=.ok (.int k (abZ a b)) w:=rfl
def ahm {S:St} {a:Act} {x y:Operand} (h:EJ x y=true):a.eval x=a.eval y:=by
 unfold EJ at h
 split at h
 ·have:=eq_of_beq h; subst this; rfl
 ·have:=of_decide_eq_true h; subst this; rfl
 ·cases h
def iW {α β:Type} {x:BY α} {f:α->BY β} {r:β} (h:x.bind f=some r):∃a,x=some a/\f a=some r:=by
 cases x with
 |none=>cases h
 |some a=>exact⟨a,rfl,h⟩
def arr1 {α:Type} {a:Array α} {x:α} (h:a.toList=[x]):a=#[x]:=fo (by simpa using h)
def arr2 {α:Type} {a:Array α} {x y:α} (h:a.toList=[x,y]):a=#[x,y]:=fo (by simpa using h)
def me {S:St} {a:Act} {o:Oper} {b:Builtin} {d:Array Operand} {tys:Array TypeId} {f:Array TypeId->TypeId->Array Value->Sem Value} (e:o.op=.call ⟨.builtin b,d,tys⟩)
 (hb:∀c vs,builtin b tys o.type c vs=(do pure (.value (<-f tys o.type vs)):Sem Next)) :
 execOp a.eval o=(do let u <-f tys o.type (d.map a.eval); pure (.value u)):=by
 unfold execOp;rw[e];simp only[resolve,pure_bind,invoke,hb]
def alc {S S':St} {a:Act} {o:Oper} {nid:Nat} {eat:Bool} {v:AV} {clone:Nat->Bool} (H:Sim ν S a w) (hn:Ę clone o.op=true->nid<S.h.length/\lkB S.h nid=.dead)
 (e:opR P S nid eat o.op=some (v,S')):agD ν S w ((execOp a.eval o).run P w) v S':=by
 have I:=H.heap
 cases A:o.op with
 |move x =>
  rw[A] at e; cases e;exact agD.still I (by unfold execOp; rw[A]; rfl) (ŏ H x)
 |assign x =>
  rw[A] at e; cases e;exact agD.still I (by unfold execOp; rw[A]; rfl) (ŏ H x)
 |pick c x y =>
  rw[A] at e;simp only[opR,opK] at e
  split at e<;>try (cases e; done)
  rename_i b hb;have N:=ŏ H c;rw[hb] at N;have N:a.eval c=.bool b:=N
  have C:(execOp a.eval o).run P w=.ok (.value (if b then a.eval x else a.eval y)) w:=by unfold execOp; rw[A]; simp[asBool,N]
  split at e
  ·cases e; exact agD.still I C (ŏ H x)
  ·cases e; exact agD.still I C (ŏ H y)
 |box el x =>
  rw[A] at e;simp only[opR,opK] at e
  split at e<;>try (cases e; done)
  rename_i cs O
  have C:execOp a.eval o=(do let u <-Instr.box el (a.eval x); pure (.value u)):=by unfold execOp; rw[A]
  rw[C]
  split at e
  ·split at e<;>try (cases e; done)
   split at e<;>try (cases e; done)
   rename_i y U;cases e;exact(aog I O U (ŏ H x)).step
  ·cases e;obtain⟨E,h2⟩:=hn (by rw[A]; rfl);exact(box_ok I E h2 O (ŏ H x)).step
 |alloc el =>
  rw[A] at e;simp only[opR,opK] at e
  split at e<;>try (cases e; done)
  rename_i z hz
  split at e<;>try (cases e; done)
  rename_i cs O;cases e;obtain⟨E,h2⟩:=hn (by rw[A]; rfl)
  have C:execOp a.eval o=(do let u <-Instr.alloc el true (.tuple #[]); pure (.value u)):=by unfold execOp; rw[A]
  rw[C];exact(amn I E h2 hz O).step
 |build t ps =>
  rw[A] at e;simp only[opR,opK] at e
  have C:execOp a.eval o=(do let u <-Instr.build t (ps.map fun(i,x)=>(i,a.eval x)); pure (.value u)):=by unfold execOp; rw[A]
  rw[C]
  split at e<;>try (cases e; done)
  ·rename_i fs K
   split at e<;>try (cases e; done)
   rename_i hfs
   split at e<;>try (cases e; done)
   rename_i z hz
   split at e<;>try (cases e; done)
   rename_i zs W
   split at e<;>try (cases e; done)
   rename_i cs O;cases e;exact(S0 H K hfs hz W O).step
  ·rename_i n el K
   split at e<;>try (cases e; done)
   rename_i sz z Z hz
   split at e<;>try (cases e; done)
   rename_i zs W
   split at e<;>try (cases e; done)
   rename_i cs O;cases e;exact(acx H K Z hz W O).step
 |buildSlice t n ps =>
  rw[A] at e
  have C:execOp a.eval o=(do let u <-Instr.buildSlice t n (ps.map fun(i,x)=>(i,a.eval x)); pure (.value u)):=by unfold execOp; rw[A]
  rw[C];obtain⟨E,h2⟩:=hn (by rw[A]; rfl);simp only[opR,opK] at e
  split at e<;>try (cases e; done)
  rename_i el hel
  split at e<;>try (cases e; done)
  rename_i ty hty
  split at e<;>try (cases e; done)
  rename_i N;simp only[cW,beq_iff_eq,decide_eq_true_eq] at N
  split at e<;>try (cases e; done)
  rename_i xs hxs;cases e;exact(Xo H E h2 hel N.1 N.2.1 N.2.2 hxs).step
 |load t x =>
  rw[A] at e;simp only[opR,opK] at e;rw[wH] at e;obtain⟨R,E,h2⟩:=iW e;cases h2
  have C:execOp a.eval o=(do let u <-Instr.loadAt t (a.eval x); pure (.value u)):=by unfold execOp; rw[A]
  rw[C];obtain⟨u,L,V⟩:=aiB I E (ŏ H x);exact(jA.still I L V).step
 |store t x y =>
  rw[A] at e;simp only[opR,opK] at e
  have C:execOp a.eval o=(do Instr.storeAt t (a.eval x) (a.eval y); pure .skip):=by unfold execOp; rw[A]
  rw[C]
  split at e
  ·split at e<;>try (cases e; done)
   rename_i id g lo n hsub
   split at e<;>try (cases e; done)
   rename_i ty g' xs hl
   split at e<;>try (cases e; done)
   rename_i N;simp only[cW,beq_iff_eq,decide_eq_true_eq] at N;obtain⟨rfl,hln⟩:=N;rw[qW] at e;obtain⟨h',E,h2⟩:=iW e;cases h2;have U:=ŏ H y;rw[hsub] at U;obtain⟨ν1,v1,H1,ev1⟩:=an4 I hl hln U;obtain⟨w',k1,k2,k3,k4⟩:=acW H1 E ((ŏ H x).ev ev1) v1;refine⟨ν1,w',undef,.inr ⟨?_,rfl⟩,trivial,k2,ev1.trans k3 (gT (á _ _ _).symm),k4.trans (á _ _ _),rfl⟩;simp[k1]
  ·rw[qW] at e;obtain⟨h',E,h2⟩:=iW e;cases h2;exact XP (acW I E (ŏ H x) (ŏ H y))
 |nilCheck x =>
  rw[A] at e;simp only[opR,opK] at e;have G:=ŏ H x
  split at e<;>try (cases e; done)
  ·rename_i id off he;cases e;rw[he] at G;have T:=G;obtain⟨cs,b,E,h2,L⟩:=T;exact agD.still I (by unfold execOp; rw[A]; simp only[L]; rfl) (L▸G)
  ·rename_i t x' off he;cases e;rw[he] at G;have T:=G;obtain⟨b,o',us,L,V⟩:=T;exact agD.still I (by unfold execOp; rw[A]; simp only[L]; rfl) (L▸G)
  ·rename_i id g i off he
   split at e<;>try (cases e; done)
   rename_i t g' fz xs hl
   split at e<;>try (cases e; done)
   rename_i hgg;cases e;rw[he] at G;have T:=G;obtain⟨ho,t2,g2,fz2,xs2,hl2,hle,hf⟩:=T;rw[hl] at hl2; cases hl2;obtain⟨_,b,o',cap,_,L⟩:=hf (eq_of_beq hgg);exact agD.still I (by unfold execOp; rw[A]; simp only[L]; rfl) (L▸G)
 |binOp op t x y yt =>
  rw[A] at e;simp only[opR,opK] at e;rw[CL] at e;obtain⟨R,E,h2⟩:=iW e;cases h2
  have C:execOp a.eval o=(do let u <-(do eqGuard op t x y (a.eval x) (a.eval y); binOp op t (a.eval x) (a.eval y)); pure (.value u)):=by unfold execOp; rw[A]
  rw[C];exact(amf x y I E (ŏ H x) (ŏ H y)).step
 |unOp op t x =>
  rw[A] at e;simp only[opR,opK] at e
  have C:execOp a.eval o=(do let u <-Op.unary op (a.eval x); pure (.value u)):=by unfold execOp; rw[A]
  rw[C];have G:=ŏ H x
  split at e<;>try (cases e; done)
  ·rename_i b he;cases e;rw[he] at G;exact(ag4 (op:=.not) I G rfl).step
  ·rename_i k n he;rw[FP] at e;obtain⟨R,E,h2⟩:=iW e;cases h2;rw[he] at G;exact(ag4 (op:=.neg) I G E).step
 |convert src dst x =>
  rw[A] at e;simp only[opR,opK] at e
  have C:execOp a.eval o=(do let u <-convert src dst (a.eval x); pure (.value u)):=by unfold execOp; rw[A]
  rw[C];have G:=ŏ H x
  split at e<;>try (cases e; done)
  rename_i d k k' n Z hd he;cases e;rw[he] at G;have G:a.eval x=.int k' n:=G;refine(jA.still (v:=.int k (k.wrap n)) (u:=.int k (k.wrap n)) I ?_ rfl).step;rw[G];simp only[convert,Sem.run_bind,run_underlying Z,run_underlying hd,Result.andThen_ok];simp[Conv.intToInt]
 |makeFunc fn first caps =>
  rw[A] at e;simp only[opR,opK] at e
  split at e<;>try (cases e; done)
  rename_i N;simp only[cW,dC] at N;cases e
  have C:execOp a.eval o=(do let u <-Instr.makeFunc fn (first.map a.eval) (caps.map a.eval); pure (.value u)):=by unfold execOp; rw[A]
  rw[C];refine(jA.still (v:=.fn fn (first.toList.map (ev S.t)) (caps.toList.map (ev S.t))) (u:=.func fn (first.map a.eval) (caps.map a.eval)) I rfl ⟨_,_,rfl,?_,?_⟩).step
  ·rw[gh];exact ĕ.of_map fun x C=>aiO (N.1 _ (List.mem_map_of_mem C)) (ŏ H x)
  ·rw[gh];exact ĕ.of_map fun x C=>aiO (N.2 _ (List.mem_map_of_mem C)) (ŏ H x)
 |makeMap t r =>
  rw[A] at e;simp only[opR,opK] at e
  split at e<;>try (cases e; done)
  rename_i kt et K
  split at e<;>try (cases e; done)
  rename_i k R hk G
  split at e<;>try (cases e; done)
  cases e;obtain⟨E,h2⟩:=hn (by rw[A]; rfl)
  have C:execOp a.eval o=(do let u <-Instr.makeMap t none; pure (.value u)):=by unfold execOp; rw[A]; rfl
  rw[C];exact(aft k R I E h2).step
 |makeSlice t l c =>
  rw[A] at e;simp only[opR,opK] at e
  split at e<;>try (cases e; done)
  rename_i k n el hsame hl hel
  split at e<;>try (cases e; done)
  rename_i ty hty
  split at e<;>try (cases e; done)
  rename_i hrow
  split at e<;>try (cases e; done)
  rename_i zs W
  split at e<;>try (cases e; done)
  rename_i z hz
  split at e<;>try (cases e; done)
  rename_i hb;simp only[cW,decide_eq_true_eq,ä] at hb;cases e;obtain⟨E,h2⟩:=hn (by rw[A]; rfl);have G:=ŏ H l;rw[hl] at G;have G:a.eval l=.int k n:=G
  have N:a.eval c=.int k n:=by rw[<-ahm (S:=S) hsame,G]
  have C:execOp a.eval o=(do let u <-Instr.makeSlice t (.int k n) (.int k n); pure (.value u)):=by unfold execOp; rw[A]; simp only[G,N]
  rw[C];exact(YY I E h2 hel hrow W hz hb.1 hb.2).step
 |slice t x lo hi mx =>
  rw[A] at e;simp only[opR,opK] at e
  split at e<;>try (cases e; done)
  rename_i el K
  split at e<;>try (cases e; done)
  rename_i sz Z;rw[B4] at e;obtain⟨⟨R,h'⟩,E,h2⟩:=iW e;cases h2
  have C:execOp a.eval o=(do let u <-Instr.sliceAt t (a.eval x) (lo.map a.eval) (hi.map a.eval) none; pure (.value u)):=by unfold execOp; rw[A]; rfl
  rw[C];refine(akU I K Z E (ŏ H x) (fun y U=>?_) (fun U=>?_) (fun y U=>?_) (fun U=>?_)).step
  ·cases lo with
   |none=>cases U
   |some l=>cases U; exact⟨_,rfl,ŏ H l⟩
  ·cases lo with
   |none=>rfl
   |some l=>cases U
  ·cases hi with
   |none=>cases U
   |some l=>cases U; exact⟨_,rfl,ŏ H l⟩
  ·cases hi with
   |none=>rfl
   |some l=>cases U
 |fieldAddr t x f =>
  rw[A] at e;simp only[opR,opK] at e
  split at e<;>try (cases e; done)
  rename_i fs K
  split at e<;>try (cases e; done)
  rename_i fd hf
  split at e<;>try (cases e; done)
  rename_i n Z;rw[qY] at e;obtain⟨R,E,h2⟩:=iW e;cases h2
  have C:execOp a.eval o=(do let u <-Instr.fieldAt t (a.eval x) f; pure (.value u)):=by unfold execOp; rw[A]
  rw[C];exact(aam I K hf Z E (ŏ H x)).step
 |field t x f =>
  rw[A] at e;simp only[opR,opK] at e;have G:=ŏ H x
  split at e<;>try (cases e; done)
  rename_i fs cs K N
  split at e<;>try (cases e; done)
  rename_i fd hf
  split at e<;>try (cases e; done)
  rename_i agg n hl
  split at e<;>try (cases e; done)
  rename_i ds hg
  split at e<;>try (cases e; done)
  rename_i R hm;cases e;rw[N] at G
  have C:execOp a.eval o=(do let u <-Instr.field t (a.eval x) f; pure (.value u)):=by unfold execOp; rw[A]
  rw[C];exact(alF I K hf hl hg hm G).step
 |indexAddr t x i =>
  rw[A] at e;simp only[opR,opK] at e
  have C:execOp a.eval o=(do let u <-Instr.indexAt t (a.eval x) (a.eval i); pure (.value u)):=by unfold execOp; rw[A]
  rw[C]
  split at e<;>try (cases e; done)
  ·rename_i el K
   split at e<;>try (cases e; done)
   rename_i sz Z;rw[rj] at e;obtain⟨R,E,h2⟩:=iW e;cases h2;exact(alx I K Z E (ŏ H x) (ŏ H i)).step
  ·rename_i n el K;have G:=ŏ H x;have hi:=ŏ H i
   split at e<;>try (cases e; done)
   rename_i id off k j hx' hi'
   split at e<;>try (cases e; done)
   rename_i sz Z;rw[jv] at e;obtain⟨q,E,h2⟩:=iW e;obtain⟨rfl,_,hb⟩:=Jk E;cases h2;rw[hx'] at G;rw[hi'] at hi;have hi:a.eval i=.int k (q:Int):=hi;rw[hi];have:=(Qe I K (j:=(q:Int)) (k:=k) ⟨by omega,by omega⟩ Z G).step;simpa using this
 |index t x i =>
  rw[A] at e;simp only[opR,opK] at e
  have C:execOp a.eval o=(do let u <-Instr.index t (a.eval x) (a.eval i); pure (.value u)):=by unfold execOp; rw[A]
  rw[C];have G:=ŏ H x;have hi:=ŏ H i
  split at e<;>try (cases e; done)
  rename_i n el cs k j K hx' hi';rw[jv] at e;obtain⟨q,E,h2⟩:=iW e;obtain⟨rfl,_,hb⟩:=Jk E
  split at h2<;>try (cases h2; done)
  rename_i agg m hl
  split at h2<;>try (cases h2; done)
  rename_i ds hg
  split at h2<;>try (cases h2; done)
  rename_i R hm;cases h2;rw[hx'] at G;rw[hi'] at hi;have hi:a.eval i=.int k (q:Int):=hi;rw[hi];exact(abY I K (j:=(q:Int)) (k:=k) ⟨by omega,by omega⟩ hl (by simpa using hg) hm G).step
 |lookup t m i ok =>
  rw[A] at e;simp only[opR,opK] at e;rw[oj] at e;obtain⟨R,E,h2⟩:=iW e;cases h2
  have C:execOp a.eval o=(do let u <-Instr.lookup t (a.eval m) (a.eval i) ok; pure (.value u)):=by unfold execOp; rw[A]
  rw[C];exact(ait I E (ŏ H m) (ŏ H i)).step
 |mapUpdate t m i x =>
  rw[A] at e;simp only[opR,opK] at e;rw[oD] at e;obtain⟨h',E,h2⟩:=iW e;cases h2
  have C:execOp a.eval o=(do Instr.mapUpdate t (a.eval m) (a.eval i) (a.eval x); pure .skip):=by unfold execOp; rw[A]
  rw[C];exact XP (YV I E (ŏ H m) (ŏ H i) (ŏ H x))
 |extract x i =>
  rw[A] at e;simp only[opR,opK] at e;have G:=ŏ H x
  split at e<;>try (cases e; done)
  rename_i vs hvs
  split at e<;>try (cases e; done)
  rename_i R T;cases e;rw[hvs] at G;obtain⟨us,hu,h2⟩:=G;obtain⟨u,L,V⟩:=h2.get T;refine agD.still I (u:=u) (by unfold execOp; rw[A]; simp only[hu]; simp at L; simp[Instr.extract,L]) ?_
  cases K:v.isTup with
  |true =>
   cases v<;>try cases K
   exact V.elim
  |false=>rw[zq K]; exact V
 |call c =>
  obtain⟨f,args,tys⟩:=c;rw[A] at e
  cases f with
  |value f=>cases e
  |invoke r n=>cases e
  |builtin b =>
   simp only[opR,opK] at e
   split at e
   ·-- len
    rename_i x t rest B J;rw[Ch] at e;obtain⟨R,E,h2⟩:=iW e;cases h2;rw[me (S:=S) (f:=Builtin.len_) A (fun _ _=>rfl),arr1 B,show Array.map a.eval #[x]=#[a.eval x] by simp]
    have Y:tys[0]?=some t:=by rw[<-gI,J]; rfl
    exact(len_ok I E (ŏ H x) Y).step
   ·rename_i s x t t' B J;obtain⟨E,h2⟩:=hn (by rw[A]; rfl);rw[me (S:=S) (f:=Builtin.append_) A (fun _ _=>rfl),arr2 B,arr2 J,show Array.map a.eval #[s,x]=#[a.eval s,a.eval x] by simp]
    split at e
    ·rename_i htt;have htt:=eq_of_beq htt;subst htt;rw[yM] at e;obtain⟨⟨R,h'⟩,L,V⟩:=iW e;cases V;exact(aki I E h2 L (ŏ H s) (ŏ H x)).step
    ·split at e<;>try (cases e; done)
     rename_i hu;rw[BX] at e;obtain⟨⟨R,h'⟩,L,V⟩:=iW e;cases V;exact(akL I E h2 hu L (ŏ H s) (ŏ H x)).step
   ·rename_i x t B J
    split at e<;>try (cases e; done)
    rename_i d hd;rw[CH] at e;obtain⟨h',E,h2⟩:=iW e;cases h2;rw[me (S:=S) (f:=Builtin.clear_) A (fun _ _=>rfl),arr1 B,show Array.map a.eval #[x]=#[a.eval x] by simp]
    have Y:tys[0]?=some t:=by rw[<-gI,J]; rfl
    exact(alQ Y I E (by rw[hd]; rfl) (ŏ H x)).step
   ·rename_i x t rest B J
    split at e<;>try (cases e; done)
    rename_i el K C;cases e;have G:=ŏ H x;rw[C] at G;have G:a.eval x=.slice none 0 0:=G;rw[me (S:=S) (f:=Builtin.cap_) A (fun _ _=>rfl),arr1 B]
    have Y:tys[0]?=some t:=by rw[<-gI,J]; rfl
    exact(jA.still (v:=.int .i64 0) (u:=.int .i64 0) I (by simp[Builtin.cap_,Y,G,run_underlying K,goInt]) rfl).step
   ·rename_i x xs B;rw[jh] at e;obtain⟨R,E,h2⟩:=iW e;cases h2;rw[me (S:=S) (f:=Builtin.min_) A (fun _ _=>rfl)];obtain⟨u,L,V⟩:=NZ (P:=P) (f:=Builtin.min2) (gt:=false) (fun k p q=>ak3 k p q) (xs.map (ev S.t)) (xs.map a.eval) _ v (a.eval x) E (ŏ H x) (ĕ.of_map fun y _=>ŏ H y);refine(jA.still I ?_ V).step;simp only[Builtin.min_,gh,B,eV];exact L
   ·rename_i x xs B;rw[jh] at e;obtain⟨R,E,h2⟩:=iW e;cases h2;rw[me (S:=S) (f:=Builtin.max_) A (fun _ _=>rfl)];obtain⟨u,L,V⟩:=NZ (P:=P) (f:=Builtin.max2) (gt:=true) (fun k p q=>ak4 k p q) (xs.map (ev S.t)) (xs.map a.eval) _ v (a.eval x) E (ŏ H x) (ĕ.of_map fun y _=>ŏ H y);refine(jA.still I ?_ V).step;simp only[Builtin.max_,gh,B,eV];exact L
   ·cases e
 |_=>rw[A] at e; cases e
end
end Go.Am
end

noncomputable section
namespace Go.Am
variable [Ghost]
def Ų (nid:Nat) (h h':CK Blk):Prop:=∀j,j≠nid->lkB h j=.dead->lkB h' j=.dead
def Ų.refl (nid:Nat) (h:CK Blk):Ų nid h h:=fun _ _ hd=>hd
def Ų.upd {nid id:Nat} {h:CK Blk} (B:Blk) (b:id=nid\/lkB h id≠.dead):Ų nid h (Đ h id B):=fun j c hd=>by
 rw[Ù]
 ·exact hd
 ·rintro rfl;rcases b with rfl|b
  ·exact c rfl
  ·exact b hd
def Ų.trans {nid:Nat} {h h' b:CK Blk} (d:Ų nid h h') (h2:Ų nid h' b):Ų nid h b:=fun j c hd=>h2 j c (d j c hd)
def Ų.frz {nid:Nat} {h:CK Blk} (v:AV):Ų nid h (frz h v):=fun _ _ hd=>aef hd
def Ų.frzA {nid:Nat} {h:CK Blk} (ps:CK (Nat×AV)):Ų nid h (frzA h ps):=fun _ _ hd=>Qh ps hd
def EQ {h:CK Blk} {id:Nat} {B:Blk} (b:lkB h id=B) (c:B≠.dead):lkB h id≠.dead:=by rw[b]; exact c
def anT {v:AV} {id:Nat} {h:CK Blk} {k u:Ty} {es:CK (Val k×Val u)} (b:lkB h id=.map k u es):lkB (frz h v) id=.map k u es:=by
 unfold frz; split
 ·exact WT _ b
 ·exact aei b
def Ta {P:Program} {h h':CK Blk} {t:TypeId} {a v:AV} {nid:Nat} (b:yQ P h t a v some=some h'):Ų nid h h':=by
 unfold yQ at b
 (repeat' split at b)<;>first
  |(cases b; done)
  |(cases b; exact Ų.upd _ (.inr (EQ ‹lkB h _=.cells _› (by simp))))
  |(cases b; exact(Ų.frz _).trans (Ų.upd _ (.inr (EQ ‹lkB (frz h _) _=.row _ _ _ _› (by simp)))))
def ahP {P:Program} {S d:St} {o:Op} {nid:Nat} {eat:Bool} {v:AV} (e:opR P S nid eat o=some (v,d)):Ų nid S.h d.h:=by
 unfold opR opK at e;dsimp only at e
 (repeat' split at e)<;>first
  |(cases e; done)
  |(cases e; exact Ų.refl _ _)
  |(cases e; exact Ų.upd _ (.inl rfl))
  |(cases e; exact(Ų.frzA _).trans (Ų.upd _ (.inl rfl)))
  |(rw[wH] at e; obtain⟨c,b,h2⟩:=iW e; cases h2; exact Ų.refl _ _)
  |(rw[CL] at e; obtain⟨c,b,h2⟩:=iW e; cases h2; exact Ų.refl _ _)
  |(rw[FP] at e; obtain⟨c,b,h2⟩:=iW e; cases h2; exact Ų.refl _ _)
  |(rw[qY] at e; obtain⟨c,b,h2⟩:=iW e; cases h2; exact Ų.refl _ _)
  |(rw[rj] at e; obtain⟨c,b,h2⟩:=iW e; cases h2; exact Ų.refl _ _)
  |(rw[oj] at e; obtain⟨c,b,h2⟩:=iW e; cases h2; exact Ų.refl _ _)
  |(rw[Ch] at e; obtain⟨c,b,h2⟩:=iW e; cases h2; exact Ų.refl _ _)
  |(rw[jh] at e; obtain⟨c,b,h2⟩:=iW e; cases h2; exact Ų.refl _ _)
  |(rw[qW] at e; obtain⟨h',b,h2⟩:=iW e; cases h2; exact Ta b)
  | (rw [qW] at e; obtain ⟨h', b, h2⟩ := iW e; cases h2
     exact(Ų.upd _ (.inr (EQ ‹lkB S.h _=.row _ _ _ _› (by simp)))).trans (Ta b))
  | (rw [B4] at e; obtain ⟨⟨c, h'⟩, b, h2⟩ := iW e; cases h2
     unfold ti at b
     (repeat' split at b)<;>first
      |(cases b; done)
      |(cases b; exact Ų.refl _ _)
      |(cases b; exact Ų.upd _ (.inr (EQ ‹lkB S.h _=.row _ _ _ _› (by simp)))))
  | (rw [yM] at e; obtain ⟨⟨c, h'⟩, b, h2⟩ := iW e; cases h2
     unfold BS at b
     (repeat' split at b)<;>first
      |(cases b; done)
      |(cases b; exact Ų.upd _ (.inl rfl))
      |(cases b; exact Ų.upd _ (.inr (EQ ‹lkB S.h _=.row _ _ _ _› (by simp)))))
  | (rw [BX] at e; obtain ⟨⟨c, h'⟩, b, h2⟩ := iW e; cases h2
     unfold Ku at b
     (repeat' split at b)<;>first
      |(cases b; done)
      |(cases b; exact Ų.upd _ (.inl rfl)))
  | (rw [CH] at e; obtain ⟨h', b, h2⟩ := iW e; cases h2
     unfold Lf at b
     (repeat' split at b)<;>first
      |(cases b; done)
      |(cases b; exact Ų.refl _ _)
      |(cases b; exact Ų.upd _ (.inr (EQ ‹lkB S.h _=.row _ _ _ _› (by simp)))))
  | (rw [jv] at e; obtain ⟨q, b, h2⟩ := iW e
     (repeat' split at h2)<;>first
      |(cases h2; done)
      |(cases h2; exact Ų.refl _ _))
  | (rw [oD] at e; obtain ⟨h', b, h2⟩ := iW e; cases h2
     unfold mn at b
     (repeat' split at b)<;>first
      |(cases b; done)
      |(cases b; exact(Ų.frz _).trans (Ų.upd _ (.inr (EQ (anT ‹lkB S.h _=.map _ _ _›) (by simp))))))
end Go.Am
end

noncomputable section
namespace Go.Am
variable [Ghost]
section
variable {ρ:Type} {ν ν':Nat->Value} {h h':CK Blk} {w w':World} {P:Program}
def Ev.same (d:∀id,lkB h' id=lkB h id) (c:w'.heap=w.heap) (j:w'.os=w.os) (h2:w'.tape=w.tape) (i:w'.output=w.output) (m:Nat):Ev m ν h w ν h' w' :=
 ⟨j,h2,i,by rw[c]; exact cX _,fun b _ hb=>⟨by rw[c],fun⟨id,f,e⟩=>hb ⟨id,by rwa [d] at f,e⟩⟩,fun id _=>by rw[d]; exact Blk.next_refl _ _ _⟩
def HR.same (H:HR ν h w) (c:∀id,lkB h' id=lkB h id) (d:w'.heap=w.heap) (l:w'.os=w.os) (h2:w'.tape=w.tape) (k:w'.output=w.output):HR ν h' w':=by
 refine⟨fun id=>?_,fun i j b e f=>H.inj i j b (by rwa [c] at e) (by rwa [c] at f),fun b hb=>by rw[d]; exact H.ghlt b hb,fun id b e=>H.ghne id b (by rwa [c] at e)⟩;rw[c];exact BR.ev (Ev.same c d l h2 k _) (fun b o hb _=>by rw[d]; exact hb) rfl (fun b _ _ _=>by rw[d]) (H.blk id)
def Sim.same {S:St} {a:Act} (H:Sim ν S a w) (d:∀id,lkB h' id=lkB S.h id) (c:w'.heap=w.heap) (f:w'.os=w.os) (h2:w'.tape=w.tape) (e:w'.output=w.output):Sim ν {t:=S.t,h:=h'} a w' :=
 ⟨H.defers.keep (by rw[c]; exact cX _) (fun b o hb _=>by rw[c]; exact hb),H.len,fun i=>(H.tmps i).ev (Ev.same d c f h2 e _),H.heap.same d c f h2 e⟩
def Z3:∀(h:CK Blk) (d:Nat),h.length<=d->lkB h d=.dead
 |[],_,_=>rfl
 |x::xs,0,h=>by simp at h
 |x::xs,d+1,h=>by simpa[lkB] using Z3 xs d (by simpa using h)
def WE:∀(h:CK Blk) (n id:Nat),lkB (h++List.replicate n .dead) id=lkB h id
 |[],0,_=>rfl
 |[],n+1,0=>rfl
 |[],n+1,id+1=>by simpa[gk,lkB] using WE [] n id
 |x::xs,n,0=>rfl
 |x::xs,n,id+1=>by simpa[lkB] using WE xs n id
abbrev fen:Fence:={Fence.wide with round:=Ghost.Q}
def aeY (P:Program) (L:Nat) (call:CK Nat->Bool->Nat->CK AV->CK Blk->(AV->CK Blk->BY ρ)->BY ρ):Prop :=
 ∀path d g b h (K:AV->CK Blk->BY ρ) r,path.length=L->call path d g b h K=some r->∀ν w vals,HR ν h w->Ghost.B<=w.heap.size->ĕ (VR ν h w) b vals ->
  (∃fn c,P.funcs[g]?=some fn/\fn.body=some c) /\
  CallsIn Fence.wide 0 P g vals.toArray w fun e w'=>∃ν' h' v u,e=.returned u/\VR ν' h' w' v u/\HR ν' h' w'/\Ev h.length ν h w ν' h' w'/\h.length<=h'.length/\(∀j,j<h.length->lkB h j=.dead->lkB h' j=.dead)/\K v h'=some r
def Kt (P:Program) (clone:Nat->Bool):Prop :=
 ∀g,clone g=true->∀fz S nid x v b,BF P g fz S nid x (fun v S=>some (v,S))=some (v,b)->∀ν w u,HR ν S.h w->VR ν S.h w x u->nid<S.h.length->lkB S.h nid=.dead ->
  (∃fn c,P.funcs[g]?=some fn/\fn.body=some c) /\
  CallsIn Fence.wide 0 P g #[u] w fun e w'=>∃ν' u',e=.returned u'/\VR ν' b.h w' v u'/\HR ν' b.h w'/\Ev S.h.length ν S.h w ν' b.h w'/\S.h.length<=b.h.length/\Ų nid S.h b.h/\b.t=S.t
def Kh (P:Program) (g:Nat) (fz:Bool) (S:St) (nid:Nat) (x:AV) (K:AV->St->BY ρ):BF P g fz S nid x K=(BF P g fz S nid x fun v S=>some (v,S)).bind fun r=>K r.1 r.2:=by
 unfold BF; (repeat' split)<;>rfl
def Aft (m:Nat) (ν:Nat->Value) (h:CK Blk) (w:World) (K:St->BY ρ) (r:ρ) (c:Act) (w':World):Prop :=
 ∃ν' b,Sim ν' b c w'/\Ev m ν h w ν' b.h w'/\h.length<=b.h.length/\K b=some r
def Aft.trans {m f:Nat} {K:St->BY ρ} {r:ρ} {i:Act} {ν b:Nat->Value} {h c:CK Blk} {w d w':World} (e:Ev m ν h w b c d) (k:h.length<=c.length) (j:m<=f) (ha:Aft f b c d K r i w'):Aft m ν h w K r i w':=by
 obtain⟨ν',q,p,h2,o,l⟩:=ha;exact⟨ν',q,p,e.trans h2 j,du k o,l⟩
def op_nid {S:St} {o:Op} {nid nid':Nat} {eat:Bool} {clone:Nat->Bool} (d:Ę clone o=false):opR P S nid eat o=opR P S nid' eat o:=by
 cases o<;>try first|rfl|(cases d; done)
 rename_i c;obtain⟨f,e,tys⟩:=c
 cases f<;>try rfl
 rename_i b
 cases b<;>first|(cases d; done)|rfl|(unfold opR opK; dsimp only; (repeat' split)<;>first|rfl|simp_all)
def YldP (P:Program) (y:YFun):Prop:=∃f:y.ty=Ghost.T,∀(O X:Nat->Prop) (c:CK (Val Ghost.T)) (v:Val Ghost.T) (u:Value) (W:World),Ghost.J O X c W->(∀b,O b->X b)->(∀b,X b->b<W.heap.size)->(c++[v] <+: BH (F:=fun t=>CK (Val t)) f y.all)->CR W X Ghost.T v [u]->Ghost.B<=W.heap.size ->
 YieldAt Fence.wide 0 P Ghost.L #[u] W fun e d=>e=.returned (.bool true)/\d.os=W.os/\d.tape=W.tape/\d.output=W.output/\W.heap.size<=d.heap.size /\
  ∃us,(∀b,b<W.heap.size->¬O b->d.heap[b]?=W.heap[b]?/\¬ř (.agg us) b)/\(∀b,ř (.agg us) b->∃o,d.heap[b]?=some o/\TI o=true)/\Ghost.J (ř (.agg us)) (fun b=>(X b/\¬O b)\/ř (.agg us) b) (c++[v]) d
def lR (E:Env ρ):Prop:=∀y,E.yld=some y->YldP E.P y
def jb {E:Env ρ} (h:E.yld=none):lR E:=fun y e=>by rw[h] at e; cases e
def am6 {α:Type} {all l:CK α} {k:BY ρ} {r:ρ} (h:yg all l k=some r):l <+: all/\k=some r:=by
 unfold yg at h
 split at h
 ·exact⟨‹_›,h⟩
 ·cases h
def ae1 {t:Ty} (b:t.isAgg=false) {a:AV} {v:Val t} (e:Ü t [a]=some v):a.isAgg=false/\a.isTup=false:=by
 cases t<;>first|(cases b; done)|(cases a<;>first|exact⟨rfl,rfl⟩|cases e)
def abd (h:CK Blk) {a:AV} (e:(ă h a).isAgg=false/\(ă h a).isTup=false):a.isAgg=false/\a.isTup=false:=by
 cases a<;>first|exact⟨rfl,rfl⟩|exact e
def agR {E:Env ρ} (hy:lR E) {x:AV} {u:Value} {K:AV->CK Blk->BY ρ} {r:ρ} (H:HR ν h w) (hv:VR ν h w x u) (hB:Ghost.B<=w.heap.size) (e:yldK E h x K=some r) :
 YieldAt Fence.wide 0 E.P Ghost.L #[u] w fun e w'=>e=.returned (.bool true)/\∃ν' h',HR ν' h' w'/\Ev h.length ν h w ν' h' w'/\h'.length=h.length/\(∀j,lkB h j=.dead->lkB h' j=.dead)/\K (.bool true) h'=some r:=by
 unfold yldK at e
 split at e<;>try (cases e; done)
 rename_i y hE
 split at e<;>try (cases e; done)
 rename_i W
 split at e<;>try (cases e; done)
 rename_i N
 split at e<;>try (cases e; done)
 rename_i v l
 split at e<;>try (cases e; done)
 rename_i t xs f
 split at e<;>try (cases e; done)
 rename_i he hq;clear hq;obtain⟨ty,all⟩:=y;obtain⟨hT,hY⟩:=hy _ hE;have S:t=ty:=he;subst S;have Y:t=Ghost.T:=hT;subst Y;obtain⟨p,hk⟩:=am6 e;obtain⟨I,G⟩:=abd h (ae1 W l);have J:=hv.one I G;obtain⟨Z,k,_⟩:=Qj H x;have U:CR w (Av ν (sS h x)) Ghost.T v [u]:=Ĥ l ⟨Qi H J N,trivial⟩;have hb:=k.blk 0;rw[f] at hb;obtain⟨us0,h1,h2,h3,h4⟩:=hb;obtain⟨fn,tmps,assign,C,m,hR⟩:=hY _ _ xs v u w h4 (fun b hb=>.inl ⟨0,by rw[f]; rfl,hb⟩) (fun b hb=>k.ltA hb) p U hB;refine⟨fn,tmps,assign,C,m,hR.mono fun e' w' hw=>?_⟩;obtain⟨rfl,o1,o2,o3,o4,us,o5,o6,o7⟩:=hw;refine⟨rfl,?_⟩
 have c:(lkB (sS h x) 0).live=true:=by rw[f]; rfl
 have z:0<(sS h x).length:=lq f (by simp);have d:∀b,b<w.heap.size->((lkB (sS h x) 0).live=true->¬ř (ν 0) b)->w'.heap[b]?=w.heap[b]?:=fun b hb s=>(o5 b hb (s c)).1
 have hV:(Blk.acc Ghost.T (xs++[v])).live=true->∀b,ř (.agg us) b->((lkB (sS h x) 0).live=true/\ř (ν 0) b)\/w.heap.size<=b:=fun _ b hb=>by
  rcases dl b w.heap.size with O|R
  ·by_cases ho:ř (ν 0) b
   ·exact .inl ⟨c,ho⟩
   ·exact absurd hb (o5 b O ho).2
  ·exact .inr R
 have A:=Ev.upd k (B:=.acc Ghost.T (xs++[v])) (V:=.agg us) z o1 o2 o3 o4 d hV (by rw[f]; exact⟨_,rfl⟩)
 have H2:HR (ď ν 0 (.agg us)) (Đ (sS h x) 0 (.acc Ghost.T (xs++[v]))) w':=by
  refine HR.upd k z A d hV ⟨us,Ý _ _ _,?_,rfl,?_⟩
  ·rw[Ý]; exact o6
  ·rw[Ý];refine Ghost.st _ _ _ _ _ _ o7 ⟨rfl,rfl,rfl,cX _,fun b _ s=>?_,fun b o hb _ _=>hb,fun b o hb _ _=>hb⟩;rintro(⟨i,hi,hb⟩|hg)
   ·by_cases h0:i=0
    ·subst h0; rw[Ý] at hb; exact s (.inr hb)
    ·rw[Ù _ h0] at hi;rw[ľ _ _ h0] at hb;exact s (.inl ⟨.inl ⟨i,hi,hb⟩,fun q=>h0 (k.inj i 0 b hi c hb q)⟩)
   ·exact s (.inl ⟨.inr hg,fun q=>k.ghne 0 b c q hg⟩)
 refine⟨_,_,H2,Z.trans A (by rw[ot]; exact cX _),by rw[á,ot],fun j hj=>?_,hk⟩;have hd:lkB (sS h x) j=.dead:=Qk hj;rw[Ù _ (fun q=>by rw[q,f] at hd; cases hd)];exact hd
def abi {E : Env ρ} {call : CK Nat -> Bool -> Nat -> CK AV -> CK Blk -> (AV -> CK Blk -> BY ρ) -> BY ρ} {L : Nat} (J : aeY E.P L call) (hP : ∀ (f : Nat) (fn : Func), E.P.funcs[f]? = some fn -> (fn.name == "runtime.NumGoroutine") = false)
 (B:Kt E.P E.clone) (R:lR E)
 {fid:Nat} {path:CK Nat} {y:Bool} {S:St} {a:Act} {nid:Nat} {o:Oper} {K:AV->St->BY ρ} {r:ρ} (hp:path.length=L) (H:Sim ν S a w) (hn:Ę E.clone o.op=true->nid<S.h.length/\lkB S.h nid=.dead)
 (e:iE E call fid path y S nid o K=some r) {next:Act->World->Prop} {Q:Exit->Act->World->Prop}
 (hk:∀(ν':Nat->Value) (w':World) (u:Value) (v:AV) (i:St),VR ν' i.h w' v u->HR ν' i.h w'->Ev S.h.length ν S.h w ν' i.h w'->S.h.length<=i.h.length->(∀j,j<S.h.length->j≠nid\/Ę E.clone o.op=false->lkB S.h j=.dead->lkB i.h j=.dead)->i.t=S.t->K v i=some r->next (a.put o.dst u) w') :
 o.wpIn fen 0 E.P a w next Q:=by
 refine⟨fun _ _=>trivial,?_⟩
 have hnd:∀c,o.op≠.defer c:=by
  intro c O;unfold iE at e
  split at e<;>try (cases e; done)
  split at e
  ·rename_i d;rw[O] at d; cases d
  ·rw[O] at e;cases e
 rw[Oper.semAt_eq _ _ _ hnd]
 have plain:∀v i,opR E.P S nid (SU E y fid o) o.op=some (v,i)->K v i=some r->o.uponIn fen 0 E.P a next Q ((execOp a.eval o).run E.P w):=by
  intro v i z h2;obtain⟨ν',w',u,N,h4,h5,h6,h7,h8⟩:=alc (clone:=E.clone) H hn z
  have:=hk ν' w' u v i h4 h5 h6 (gT h7.symm) (fun j _ C hd=>by
   rcases C with C|hal
   ·exact ahP z j C hd
   ·rw[op_nid (nid':=j+1) hal] at z
    exact ahP z j (by omega) hd) h8 h2
  rcases N with N|⟨N,rfl⟩
  ·rw[N]; exact this
  ·rw[N]; exact this
 unfold iE at e
 split at e<;>try (cases e; done)
 split at e
 ·rename_i f p tys d
  split at e<;>try (cases e; done)
  rotate_left
  ·rename_i m
   split at e<;>try (cases e; done)
   rename_i x b
   have G:a.eval f=.func (.yield Ghost.L) #[] #[]:=by
    have:=ŏ H f;rw[m] at this;exact this
   obtain⟨fn,tmps,assign,body,V,hR⟩:=agR R H.heap (ŏ H x) H.defers.bnd e
   have T:(execOp a.eval o).run E.P w=.ok (.round Ghost.L fn tmps assign body) w:=by
    rw[<-V];unfold execOp;rw[d,arr1 b];simp[resolve,G,Deferred.ofValue,invoke,Sem.run_bind,Result.andThen_ok,callFunc,run_program]
   rw[T,Oper.uponIn_round];refine⟨fun m=>(by cases m),RoundIn.mono (show RoundIn fen 0 E.P _ _ _ _ _ _ _ from hR) fun e' w' U=>?_⟩;obtain⟨rfl,ν',h',g1,g2,g3,g4,g5⟩:=U;exact hk ν' w' (.bool true) (.bool true) {t:=S.t,h:=h'} rfl g1 g2 (gT g3.symm) (fun j _ _ hd=>g4 j hd) rfl g5
  rename_i g first Z m;have Y:=ŏ H f;rw[m] at Y;obtain⟨fs,cs,G,A,I⟩:=Y
  split at e
  ·rename_i k
   split at e<;>try (cases e; done)
   rename_i x b;rw[Kh] at e;obtain⟨⟨v,i⟩,z,h2⟩:=iW e;simp only[cW] at k;obtain⟨k,W⟩:=k
   have hfg:f=.func g:=by
    cases f<;>try (cases W; done)
    simp only[ev] at m
    injection m with q1
    injection q1 with q1
    rw[q1]
   subst hfg;obtain⟨hn1,hn2⟩:=hn (by rw[d]; exact k);obtain⟨⟨fn,c,s,l⟩,O⟩:=B g k _ S nid _ v i z ν w _ H.heap (ŏ H x) hn1 hn2
   have T:(execOp a.eval o).run E.P w=.ok (.enter g #[a.eval x]) w:=by
    unfold execOp;rw[d,arr1 b];simp only[resolve,Act.eval,Deferred.ofValue,pure_bind,invoke,callFunc,Sem.run_bind,run_program,Result.andThen_ok,s,hP g fn s,l];simp only[Bool.false_eq_true,if_false,Option.isNone_some];show Result.ok (Next.enter g _) w=_;congr 2;apply Array.ext'
    cases x<;>simp[Act.eval]
   rw[T,Oper.uponIn_enter];refine⟨fun m=>(by cases m),O.mono fun e' w' U=>?_⟩;obtain⟨ν',u',rfl,g1,g2,g3,g4,g6,g5⟩:=U;exact hk ν' w' u' v i g1 g2 g3 g4 (fun j _ C hd=>g6 j (C.resolve_right (by rw[d]; exact fun m=>by rw[show Ę E.clone (.call ⟨.value (.func g),p,tys⟩)=E.clone g from rfl,k] at m; cases m)) hd) g5 h2
  ·rename_i k
   have b:ĕ (VR ν S.h w) (first++(p.toList.map (ev S.t)++Z)) (fs.toList++(p.toList.map a.eval++cs.toList)) :=
    (A.mono fun _ _ q=>q.up.up).append ((ĕ.of_map fun x _=>ŏ H x).append (I.mono fun _ _ q=>q.up.up))
   obtain⟨⟨fn,c,s,l⟩,O⟩:=J path y g _ _ _ r hp e ν w _ H.heap H.defers.bnd b
   have T:(execOp a.eval o).run E.P w=.ok (.enter g (fs.toList++(p.toList.map a.eval++cs.toList)).toArray) w:=by
    unfold execOp;rw[d];simp only[resolve,G,Deferred.ofValue,pure_bind,invoke,callFunc,Sem.run_bind,run_program,Result.andThen_ok,s,hP g fn s,l];simp only[Bool.false_eq_true,if_false,Option.isNone_some];show Result.ok (Next.enter g _) w=_;congr 2;apply Array.ext';simp
   rw[T,Oper.uponIn_enter];refine⟨fun m=>(by cases m),O.mono fun e' w' U=>?_⟩;obtain⟨ν',h',v,u,rfl,z,h2,N,h4,h6,h5⟩:=U;exact hk ν' w' u v {t:=S.t,h:=h'} z h2 N h4 (fun j C _ hd=>h6 j C hd) rfl h5
 ·rename_i op hne;rw[VI] at e;obtain⟨⟨v,i⟩,z,h2⟩:=iW e;exact plain v i z h2
def FV:∀(t:CK AV) (d:Nat),upd t d (lk t d)=t
 |[],_=>rfl
 |_::_,0=>rfl
 |x::t,d+1=>by simp[upd,lk,FV t d]
def amt (n nid:Nat) (h:CK Blk):Prop:=∀j,nid<=j->j<nid+n->j<h.length/\lkB h j=.dead
def oW {clone:Nat->Bool} {o:Oper} {os:CK Oper}:jg clone (o::os)=bif Ę clone o.op then jg clone os+1 else jg clone os:=rfl
def UF {all:CK Oper} {o:Oper} {j:Nat} {b:Bool}:∀{l:CK Oper},uQ all l=true->o∈l->o.guard=some (j,b)->∃p d,all[j]?=some p/\p.dst=some d
 |[],_,c,_=>by cases c
 |x::l,f,c,i=>by
  simp only[uQ,cW] at f;rcases df.1 c with rfl|c
  ·have e:=f.1;rw[i] at e;simp only at e
   split at e
   ·rename_i p k;obtain⟨d,hd⟩:=gS.1 e;exact⟨p,d,k,hd⟩
   ·cases e
  ·exact UF f.2 c i
def aeZ {c:Array Oper} {tmps:Array Value} {j d:Nat} {p:Oper} (i:c.toList[j]?=some p) (hd:p.dst=some d) :
 (∀b,tmps.getD d undef=.bool b->yielded c tmps j=some b)/\(tmps.getD d undef=undef->yielded c tmps j=none):=by
 have e:c[j]?=some p:=by simpa using i
 constructor
 ·intro b hb;unfold yielded;rw[e];simp only[Option.bind_some,hd]
  cases f:tmps[d]? with
  |none=>simp[eF,f,undef] at hb
  |some v=>simp[eF,f] at hb; subst hb; rfl
 ·intro hb;unfold yielded;rw[e];simp only[Option.bind_some,hd]
  cases f:tmps[d]? with
  |none=>rfl
  |some v=>simp[eF,f] at hb; subst hb; rfl
def rA (E:Env ρ) (call:CK Nat->Bool->Nat->CK AV->CK Blk->(AV->CK Blk->BY ρ)->BY ρ) (fid:Nat) (path:CK Nat) (c:Bool) (all:CK Oper) (i nid:Nat) (o:Oper) (S:St) (K:St->BY ρ):BY ρ :=
 match o.guard with
 |none=>iE E call fid (path++[i]) c S nid o fun v S=>K {t:=Ă S.t o.dst v,h:=S.h}
 |some (j,want)=>match lk S.t (qL all j) with
  |.bool b=>match b==want with
   |true=>iE E call fid (path++[i]) c S nid o fun v S=>K {t:=Ă S.t o.dst v,h:=S.h}
   |false=>K {t:=Ă S.t o.dst .und,h:=S.h}
  |.und=>K {t:=Ă S.t o.dst .und,h:=S.h}
  |_=>none
def ahL {E:Env ρ} {call:CK Nat->Bool->Nat->CK AV->CK Blk->(AV->CK Blk->BY ρ)->BY ρ} {fid:Nat} {path:CK Nat} {c:Bool} {all:CK Oper} {o:Oper} {os:CK Oper} {i nid:Nat} {S:St} {K:St->BY ρ} :
 afl E call fid path c all (o::os) i nid S K=rA E call fid path c all i nid o S fun m=>afl E call fid path c all os (i+1) (bif Ę E.clone o.op then nid+1 else nid) m K:=by
 simp only[afl,rA]
 have f:∀d b,lk S.t d=.bool b->({t:=upd S.t d (.bool b),h:=S.h}:St)=S:=fun d b hb=>by rw[<-hb,FV]
 have e:∀d b,lk S.t d=.bool b->upd S.t d (.bool b)=S.t:=fun d b hb=>by rw[<-hb,FV]
 cases o.guard with
 |none=>rfl
 |some g =>
  obtain⟨j,k⟩:=g;simp only
  cases hb:lk S.t (qL all j)<;>try rfl
  rename_i b;have l:=f _ b hb;have h2:=e _ b hb
  cases b<;>cases k<;>simp only[l,h2]<;>rfl
def Nh {E : Env ρ} {call : CK Nat -> Bool -> Nat -> CK AV -> CK Blk -> (AV -> CK Blk -> BY ρ) -> BY ρ} {L : Nat} (z : aeY E.P L call) (Z : ∀ (f : Nat) (fn : Func), E.P.funcs[f]? = some fn -> (fn.name == "runtime.NumGoroutine") = false)
 (m:Kt E.P E.clone) (B:lR E) {fid:Nat} {path:CK Nat} {q:Bool} {c:Array Oper} (Y:uQ c.toList c.toList=true)
 {S:St} {a:Act} {nid i:Nat} {o:Oper} {K:St->BY ρ} {r:ρ} (J:path.length+1=L) (U:c[i]?=some o) (H:Sim ν S a w) (W:Ę E.clone o.op=true->nid<S.h.length/\lkB S.h nid=.dead)
 (e:rA E call fid path q c.toList i nid o S K=some r) {next:Act->World->Prop} {Q:Exit->Act->World->Prop}
 (V:∀(ν':Nat->Value) (w':World) (u:Value) (v:AV) (s:St),VR ν' s.h w' v u->HR ν' s.h w'->Ev S.h.length ν S.h w ν' s.h w'->S.h.length<=s.h.length->(∀j,j<S.h.length->j≠nid\/Ę E.clone o.op=false->lkB S.h j=.dead->lkB s.h j=.dead)->s.t=S.t ->
  K {t:=Ă s.t o.dst v,h:=s.h}=some r->next (a.put o.dst u) w') :
 wpOpIn fen 0 E.P c Q i next a w:=by
 have A:iE E call fid (path++[i]) q S nid o (fun v S=>K {t:=Ă S.t o.dst v,h:=S.h})=some r ->
  o.wpIn fen 0 E.P a w next Q:=fun R=>abi z Z m B (by simpa using J) H W R V
 -- it is left out
 have skip:K {t:=Ă S.t o.dst .und,h:=S.h}=some r->next (a.put o.dst undef) w :=
  fun R=>V ν w undef .und S rfl H.heap (Ev.refl _ _ _ _) (cX _) (fun _ _ _ hd=>hd) rfl R
 have G:o∈c.toList:=by
  have:c.toList[i]?=some o:=by simpa using U
  exact dc this
 unfold wpOpIn;rw[U];simp only[rA] at e
 split at e
 ·rename_i k
  have x:Region.wanted o (yielded c a.tmps)=true:=by simp[Region.wanted,k]
  simp only[x,if_true];exact A e
 ·rename_i j T k;obtain⟨p,d,J,hd⟩:=UF Y G k;obtain⟨O,N⟩:=aeZ (tmps:=a.tmps) J hd
  have y:qL c.toList j=d:=by simp[qL,J,hd]
  rw[y] at e;have I:=H.tmps d
  split at e
  ·rename_i b hb;rw[hb] at I;have C:=O b I
   split at e
   ·rename_i l
    have x:Region.wanted o (yielded c a.tmps)=true:=by
     simp only[beq_iff_eq] at l;simp[Region.wanted,k,C,l]
    simp only[x,if_true];exact A e
   ·rename_i l
    have x:Region.wanted o (yielded c a.tmps)=false:=by
     simp only[beq_eq_false_iff_ne] at l;simpa[Region.wanted,k,C] using l
    simp only[x,dp,if_false];exact⟨fun _ _=>trivial,skip e⟩
  ·rename_i hb;rw[hb] at I
   have x:Region.wanted o (yielded c a.tmps)=false:=by simp[Region.wanted,k,N I]
   simp only[x,dp,if_false];exact⟨fun _ _=>trivial,skip e⟩
  ·cases e
def ahK {E : Env ρ} {call : CK Nat -> Bool -> Nat -> CK AV -> CK Blk -> (AV -> CK Blk -> BY ρ) -> BY ρ} {L : Nat} (p : aeY E.P L call) (N : ∀ (f : Nat) (fn : Func), E.P.funcs[f]? = some fn -> (fn.name == "runtime.NumGoroutine") = false)
 (k:Kt E.P E.clone) (q:lR E) {fid:Nat} {path:CK Nat} {l:Bool} {c:Array Oper} (J:uQ c.toList c.toList=true)
 {S:St} {a:Act} {nid i:Nat} {o:Oper} {os:CK Oper} {K:St->BY ρ} {r:ρ} (A:path.length+1=L) (B:c[i]?=some o) (H:Sim ν S a w) (y:amt (jg E.clone (o::os)) nid S.h)
 (e:afl E call fid path l c.toList (o::os) i nid S K=some r) {next:Act->World->Prop} {Q:Exit->Act->World->Prop}
 (G:∀(ν':Nat->Value) (w':World) (u:Value) (v:AV) (d:St),VR ν' d.h w' v u->HR ν' d.h w'->Ev S.h.length ν S.h w ν' d.h w'->S.h.length<=d.h.length->amt (jg E.clone os) (bif Ę E.clone o.op then nid+1 else nid) d.h->(∀j,j<S.h.length->j<nid->lkB S.h j=.dead->lkB d.h j=.dead)->d.t=S.t ->
  afl E call fid path l c.toList os (i+1) (bif Ę E.clone o.op then nid+1 else nid) {t:=Ă d.t o.dst v,h:=d.h} K=some r->next (a.put o.dst u) w') :
 wpOpIn fen 0 E.P c Q i next a w:=by
 have x:Ę E.clone o.op=true->nid<S.h.length/\lkB S.h nid=.dead:=fun b=>y nid (cX _) (by rw[oW,b]; simp)
 have m:amt (jg E.clone os) (bif Ę E.clone o.op then nid+1 else nid) S.h:=fun j s h2=>by
  cases b:Ę E.clone o.op with
  |true=>rw[b] at s h2; exact y j (by simp at s; omega) (by rw[oW,b]; simp at h2 ⊢; omega)
  |false=>rw[b] at s h2; exact y j (by simpa using s) (by rw[oW,b]; simpa using h2)
 rw[ahL] at e;refine Nh p N k q J A B H x e fun ν' w' u v d g1 Z Y W z V U=>G ν' w' u v d g1 Z Y W (fun j h2 T=>?_) (fun j I C hd=>z j I (.inl (by omega)) hd) V U;obtain⟨R,O⟩:=m j h2 T;refine⟨by omega,z j R ?_ O⟩
 cases b:Ę E.clone o.op with
 |true=>left; rw[b] at h2; simp at h2; omega
 |false=>exact .inr rfl
end
end Go.Am
end

noncomputable section
namespace Go.Am
variable [Ghost]
section
variable {ρ:Type} {ν ν':Nat->Value} {h h':CK Blk} {w w':World} {P:Program}
def Dd (m:Nat) (h h':CK Blk):Prop:=∀j,j<m->lkB h j=.dead->lkB h' j=.dead
def Dd.refl (m:Nat) (h:CK Blk):Dd m h h:=fun _ _ hd=>hd
def Dd.trans {m c:Nat} {h h' b:CK Blk} (f:Dd m h h') (h2:Dd c h' b) (e:m<=c):Dd m h b:=fun j d hd=>h2 j (dr d e) (f j d hd)
def acI (m:Nat) (ν:Nat->Value) (h:CK Blk) (w:World) (K:Exit->St->BY ρ) (r:ρ) (e:Exit) (c:Act) (w':World):Prop :=
 ∃ν' b,Sim ν' b c w'/\Ev m ν h w ν' b.h w'/\m<=b.h.length/\Dd m h b.h/\K e b=some r
def acI.trans {m i:Nat} {K:Exit->St->BY ρ} {r:ρ} {e:Exit} {j:Act} {b:Nat->Value} {c:CK Blk} {d:World} (ev:Ev m ν h w b c d) (hd:Dd m h c) (f:m<=i) (ha:acI i b c d K r e j w'):acI m ν h w K r e j w':=by
 obtain⟨ν',q,p,h2,o,l,k⟩:=ha;exact⟨ν',q,p,ev.trans h2 f,du f o,hd.trans l f,k⟩
def akz (E:Env ρ) (call:CK Nat->Bool->Nat->CK AV->CK Blk->(AV->CK Blk->BY ρ)->BY ρ):Prop :=
 (∀path c g b h K,call path c g b h K=none) \/
 ((∀ f p, E.pure f = some p -> ∀ path c b h K, call path c f b h K = Vq (c && !E.fz f) p h b K) /\
  (∀f,E.pure f=none->E.sort f=true->∀path c b h K,call path c f b h K=match b with|[x]=>Vg h x K|_=>none) /\
  (∀f,E.pure f=none->E.sort f=false->E.compact f=true->∀path c b h K,call path c f b h K=match b with|[x]=>qR h x K|_=>none))
def NormOk (m:Nat) (N:St->BY St):Prop:=∀(S b:St) (ν:Nat->Value) (a:Act) (w:World),N S=some b->Sim ν S a w->m<=S.h.length->∃ν',Sim ν' b a w/\Ev m ν S.h w ν' b.h w/\m<=b.h.length/\Dd m S.h b.h
def aaY (E:Env ρ):Prop:=∀path fid rid m J,E.joins path fid rid m=some J->∃N,NormOk m N/\∀b rest,J b rest=b (fun S=>match N S with|some c=>rest c|none=>none)
def Ŕ {E:Env ρ} (h:E.joins=fun _ _ _ _=>none):aaY E:=by
 intro path fid rid m J e;rw[h] at e;cases e
structure nH (E:Env ρ) (L:Nat) (call:CK Nat->Bool->Nat->CK AV->CK Blk->(AV->CK Blk->BY ρ)->BY ρ):Prop where
 pureEq:akz E call
 call:aeY E.P L call
 plain : ∀ (f : Nat) (fn : Func), E.P.funcs[f]? = some fn -> (fn.name == "runtime.NumGoroutine") = false
 clone:Kt E.P E.clone
 joins:aaY E
 yld:lR E
def YI {E:Env ρ} {call:CK Nat->Bool->Nat->CK AV->CK Blk->(AV->CK Blk->BY ρ)->BY ρ} {L:Nat} (l:nH E L call) {fid:Nat} {path:CK Nat} {p:Bool} {b:Array Oper} (B:path.length+1=L) (G:uQ b.toList b.toList=true)
 {K:St->BY ρ} {r:ρ} {Q:Exit->Act->World->Prop} {m:Nat}:∀(os:CK Oper) (i nid:Nat) (S:St) (a:Act) (ν:Nat->Value) (w:World),(∀k,os[k]?=b[i+k]?)->Sim ν S a w->amt (jg E.clone os) nid S.h->m<=nid->m<=S.h.length ->
  afl E call fid path p b.toList os i nid S K=some r ->
  (∀ν' c J w',Sim ν' c J w'->Ev m ν S.h w ν' c.h w'->m<=c.h.length->Dd m S.h c.h->K c=some r->Q .normal J w') ->
  wpOpsIn fen 0 E.P b Q (List.range' i os.length) a w
 |[],i,nid,S,a,ν,w,_,H,_,_,x,e,y=>y ν S a w H (Ev.refl _ _ _ _) x (Dd.refl _ _) e
 |o::os,i,nid,S,a,ν,w,C,H,N,O,x,e,y=>by
  rw[di,List.range'_succ,wpOpsIn_cons]
  have s:b[i]?=some o:=by have:=C 0; simpa using this.symm
  refine ahK l.call l.plain l.clone l.yld G B s H N e fun ν' w' u v c Y h2 I h4 W T V U=>?_;have f:=H.put I h2 o.dst Y
  refine YI l B G os (i+1) _ {t:=Ă c.t o.dst v,h:=c.h} _ ν' w' (fun k=>by have:=C (k+1); rw[show i+1+k=i+(k+1) by omega]; simpa using this) (by rw[V]; exact f) W (by cases Ę E.clone o.op<;>simp<;>omega) (by simp; omega) U
   fun d A z q g1 g2 g3 g4 Z=>y d A z q g1 ((I.mono x).trans g2 (cX _)) g3 (fun j R hd=>g4 j R (T j (by omega) (by omega) hd)) Z
def abm {E:Env ρ} {call:CK Nat->Bool->Nat->CK AV->CK Blk->(AV->CK Blk->BY ρ)->BY ρ} {L:Nat} (p:nH E L call) {fid rid:Nat} {path:CK Nat} {c:Array Oper} {S:St} {a:Act} {K:Exit->St->BY ρ} {r:ρ} {m:Nat} (i:path.length+1=L)
 (e:Nt E call fid path false c.toList S (K .normal)=some r) (H:Sim ν S a w) (l:m<=S.h.length):(Code.region rid c false).wpIn fen 0 E.P (acI m ν S.h w K r) a w:=by
 unfold Nt at e
 split at e<;>try (cases e; done)
 rename_i f;simp only[gZ,Bool.false_or,fk] at f;apply wpIn_region;have b:=fun id=>WE S.h (jg E.clone c.toList) id;have A:Sim ν {t:=S.t,h:=S.h++List.replicate (jg E.clone c.toList) .dead} a w:=H.same b rfl rfl rfl rfl;have d:Ev m ν S.h w ν (S.h++List.replicate (jg E.clone c.toList) .dead) w:=Ev.same b rfl rfl rfl rfl m
 have:=YI (m:=m) (Q:=acI m ν S.h w K r) p i f c.toList 0 S.h.length _ a ν w (fun k=>by simp) A (fun j q h2=>⟨by simp; omega,by simp only[b]; exact Z3 _ _ q⟩) l (by simp; omega) e
  (fun ν' z B w' y x v u s=>⟨ν',z,y,d.trans x (cX _),v,fun j o hd=>u j o (by simp only[b]; exact hd),s⟩)
 rw[List.range_eq_range'];simpa using this
def xp (E:Env ρ) (L:Nat) (call:CK Nat->Bool->Nat->CK AV->CK Blk->(AV->CK Blk->BY ρ)->BY ρ):Prop :=
 ∀(fid rid:Nat) (path:CK Nat) (b:Array Oper) (S:St) (a:Act) (K:Exit->St->BY ρ) (r:ρ) (m:Nat) (ν:Nat->Value) (w:World),path.length+1=L ->
  Nt E call fid path true b.toList S (K .normal)=some r->Sim ν S a w->m<=S.h.length->(Code.region rid b true).wpIn fen 0 E.P (acI m ν S.h w K r) a w
def drawn:Code->Bool
 |.region _ _ d=>d
 |.seq a b=>drawn a||drawn b
 |.cond _ a b=>drawn a||drawn b
 |.block _ b=>drawn b
 |.scope b=>drawn b
 |_=>false
def noGoto (Q:Exit->Act->World->Prop):Exit->Act->World->Prop
 |.goto _,_,_=>False
 |e,a,w=>Q e a w
section
variable {F:Fence} {n:Nat} {P:Program} {Q:Exit->Act->World->Prop} {a:Act} {w:World}
def nQ {b:Frame} {k:CK Item} {cs:CK Frame} {c:Code}:step P (lone (b.atR a (.code (.scope c)::k)) cs w)=.next (lone (b.atR a (.code c::.inScope c::k)) cs w) :=
 step_lone_go (by simp[stepG,stepG.exec,Frame.atR])
def Vf {b:Frame} {k:CK Item} {cs:CK Frame} {c:Code}:step P (lone (b.atR a (.inScope c::k)) cs w)=.next (lone (b.atR a k) cs w) :=
 step_lone_go (by simp[stepG,stepG.exec,Frame.atR])
def ae0 {c:Code} (h:c.wpIn F n P (noGoto Q) a w):(Code.scope c).wpIn F n P Q a w:=by
 intro b k cs m hb p;have h0:(lone (b.atR a (.code (.scope c)::k)) cs w).fenced P F:=fenced_calm hb p rfl;obtain⟨e,i,f,j,d⟩:=h b (.inScope c::k) cs m hb p
 cases e with
 |normal=>exact⟨.normal,i,f,j,.head h0 nQ (StepsIn.trans d (.one (fenced_calm hb p rfl) Vf))⟩
 |exit id =>
  have r:exitTo id (.inScope c::k)=exitTo id k:=by simp[exitTo]
  exact⟨.exit id,i,f,j,fun s q=>.head h0 nQ (d.1 s (by rw[r]; exact q)),
   fun o q=>let ⟨k₁,u,h2⟩:=d.2 o (by rw[r]; exact q); ⟨k₁,u,.head h0 nQ h2⟩⟩
 |goto l=>exact j.elim
 |ret=>exact⟨_,i,f,j,.of_steps (.one h0 nQ) d⟩
 |panic ch=>exact⟨_,i,f,j,.of_steps (.one h0 nQ) d⟩
 |outgrown=>exact⟨_,i,f,j,.of_steps (.one h0 nQ) d⟩
end
def uZ (E:Env ρ) (path:CK Nat) (fid bid:Nat):LI->Prop
 |.lp b=>∀(m:Nat) (S:St) (K:Exit->St->BY ρ) (r:ρ) (ν:Nat->Value) (a:Act) (w:World),E.loops path fid bid m S K=some r->Sim ν S a w->m<=S.h.length->(Code.loop b).wpIn fen 0 E.P (acI m ν S.h w K r) a w
 |.rf g ps x y=>∀(m:Nat) (S:St) (K:Exit->St->BY ρ) (r:ρ) (ν:Nat->Value) (a:Act) (w:World),E.ranges path fid bid m (ev S.t g) S K=some r->Sim ν S a w->m<=S.h.length->(Code.rangeFunc g ps x y).wpIn fen 0 E.P (acI m ν S.h w K r) a w
def J3 {E:Env ρ} {call:CK Nat->Bool->Nat->CK AV->CK Blk->(AV->CK Blk->BY ρ)->BY ρ} {L:Nat} (V:nH E L call) {fid:Nat} {path:CK Nat} (U:path.length+2=L) {m:Nat} {r:ρ}:∀(c:Code) (bid:Nat) (S:St) (K:Exit->St->BY ρ) (ν:Nat->Value) (a:Act) (w:World),
 (drawn c=true->xp E L call)->(∀x∈ß bid c,uZ E path fid x.1 x.2)->goC E call fid path m bid c S K=some r->Sim ν S a w->m<=S.h.length->c.wpIn fen 0 E.P (acI m ν S.h w K r) a w:=by
 intro c
 induction c with
 |skip=>exact fun bid S K ν a w _ _ e H p=>wpIn_skip ⟨ν,S,H,Ev.refl _ _ _ _,p,Dd.refl _ _,e⟩
 |label l=>exact fun bid S K ν a w _ _ e H p=>wpIn_label ⟨ν,S,H,Ev.refl _ _ _ _,p,Dd.refl _ _,e⟩
 |exit id=>exact fun bid S K ν a w _ _ e H p=>wpIn_exit ⟨ν,S,H,Ev.refl _ _ _ _,p,Dd.refl _ _,e⟩
 |ret=>exact fun bid S K ν a w _ _ e H p=>wpIn_ret ⟨ν,S,H,Ev.refl _ _ _ _,p,Dd.refl _ _,e⟩
 |region rid ops draw =>
  intro bid S K ν a w s _ e H p;simp only[goC,aiZ] at e
  cases draw with
  |false=>exact abm V (by simpa using U) e H p
  |true=>exact s rfl fid rid _ ops S a K r m ν w (by simpa using U) e H p
 |seq x y ihx ihy =>
  intro bid S K ν a w s q e H p;simp only[goC] at e
  cases v:E.joins path fid (Qf y) m with
  |none =>
   rw[v] at e;simp only at e;refine wpIn_seq (wpIn_mono (ihx bid S _ ν a w (fun h=>s (by simp[drawn,h])) (fun z u=>q z (dR _ u)) e H p) fun A B w' ha=>?_);obtain⟨ν',o,k,h2,i,f,d⟩:=ha
   cases A with
   |normal =>
    exact wpIn_mono (ihy bid o K ν' B w' (fun h=>s (by simp[drawn,h])) (fun z u=>q z (dN _ u)) d k i) fun R T O ha=>ha.trans h2 f (cX _)
   |exit id=>exact⟨ν',o,k,h2,i,f,d⟩
   |goto l=>exact⟨ν',o,k,h2,i,f,d⟩
   |ret=>exact⟨ν',o,k,h2,i,f,d⟩
   |panic ch=>exact⟨ν',o,k,h2,i,f,d⟩
   |outgrown=>exact⟨ν',o,k,h2,i,f,d⟩
  |some J =>
   rw[v] at e;simp only at e;obtain⟨N,Y,Z⟩:=V.joins _ _ _ _ _ v;rw[Z] at e;refine wpIn_seq (wpIn_mono (ihx bid S _ ν a w (fun h=>s (by simp[drawn,h])) (fun z u=>q z (dR _ u)) e H p) fun A B w' ha=>?_);obtain⟨ν',o,k,h2,i,f,d⟩:=ha
   cases A with
   |normal =>
    simp only at d
    split at d<;>try (cases d; done)
    rename_i I W;obtain⟨C,g1,g2,g3,g4⟩:=Y o I ν' B w' W k i;exact wpIn_mono (ihy bid I K C B w' (fun h=>s (by simp[drawn,h])) (fun z u=>q z (dN _ u)) d g1 g3) fun R T O ha=>ha.trans (h2.trans g2 (cX _)) (f.trans g4 (cX _)) (cX _)
   |exit id=>exact⟨ν',o,k,h2,i,f,d⟩
   |goto l=>exact⟨ν',o,k,h2,i,f,d⟩
   |ret=>exact⟨ν',o,k,h2,i,f,d⟩
   |panic ch=>exact⟨ν',o,k,h2,i,f,d⟩
   |outgrown=>exact⟨ν',o,k,h2,i,f,d⟩
 |cond c x y ihx ihy =>
  intro bid S K ν a w s q e H p;simp only[goC] at e
  split at e<;>try (cases e; done)
  rename_i b hb;have G:=ŏ H c;rw[hb] at G;have G:a.eval c=.bool b:=G
  split at e
  ·exact wpIn_cond_true G (ihx bid S K ν a w (fun h=>s (by simp[drawn,h])) (fun z u=>q z (dR _ u)) e H p)
  ·exact wpIn_cond_false G (ihy bid S K ν a w (fun h=>s (by simp[drawn,h])) (fun z u=>q z (dN _ u)) e H p)
 |block id b ih =>
  intro bid S K ν a w s q e H p;simp only[goC] at e;refine wpIn_block (wpIn_mono (ih id S _ ν a w (fun h=>s (by simpa[drawn] using h)) q e H p) fun A B w' ha=>?_);obtain⟨ν',o,k,h2,i,f,d⟩:=ha
  cases A with
  |exit j =>
   simp only[Exit.inBlock];simp only at d
   split at d
   ·rename_i v;rw[if_pos (eq_of_beq v)];exact⟨ν',o,k,h2,i,f,d⟩
   ·rename_i v
    have:¬j=id:=by simpa using v
    rw[if_neg this];exact⟨ν',o,k,h2,i,f,d⟩
  |normal=>exact⟨ν',o,k,h2,i,f,d⟩
  |goto l=>exact⟨ν',o,k,h2,i,f,d⟩
  |ret=>exact⟨ν',o,k,h2,i,f,d⟩
  |panic ch=>exact⟨ν',o,k,h2,i,f,d⟩
  |outgrown=>exact⟨ν',o,k,h2,i,f,d⟩
 |loop b ih =>
  intro bid S K ν a w s q e H p;simp only[goC] at e;exact q (bid,.lp b) (by simp[ß]) m S K r ν a w e H p
 |rangeFunc g ps x y ihx ihy =>
  intro bid S K ν a w s q e H p;simp only[goC] at e;exact q (bid,.rf g ps x y) (by simp[ß]) m S K r ν a w e H p
 |scope b ih =>
  intro bid S K ν a w s q e H p;simp only[goC] at e;refine ae0 (wpIn_mono (ih bid S _ ν a w (fun h=>s (by simpa[drawn] using h)) q e H p) fun A B w' ha=>?_);obtain⟨ν',o,k,h2,i,f,d⟩:=ha
  cases A with
  |goto l=>cases d
  |normal=>exact⟨ν',o,k,h2,i,f,d⟩
  |exit id=>exact⟨ν',o,k,h2,i,f,d⟩
  |ret=>exact⟨ν',o,k,h2,i,f,d⟩
  |panic ch=>exact⟨ν',o,k,h2,i,f,d⟩
  |outgrown=>exact⟨ν',o,k,h2,i,f,d⟩
 |_=>intro bid S K ν a w s q e H p; cases e
def wL {E:Env ρ} {call:CK Nat->Bool->Nat->CK AV->CK Blk->(AV->CK Blk->BY ρ)->BY ρ} {L:Nat} (i:nH E L call) (j:xp E L call) {fid:Nat} {path:CK Nat} (b:path.length+2=L) {m:Nat} {r:ρ} (c:Code) (bid:Nat) (S:St) (K:Exit->St->BY ρ) (ν:Nat->Value) (a:Act) (w:World)
 (f:∀x∈ß bid c,uZ E path fid x.1 x.2) (e:goC E call fid path m bid c S K=some r) (H:Sim ν S a w) (d:m<=S.h.length):c.wpIn fen 0 E.P (acI m ν S.h w K r) a w :=
 J3 i b c bid S K ν a w (fun _=>j) f e H d
end
end Go.Am
end

noncomputable section
namespace Go.Am
variable [Ghost]
section
variable {ρ:Type} {ν ν':Nat->Value} {h h':CK Blk} {w w':World} {P:Program}
def aky:Prop:=∀(T:Tpl) (pin:Nat) (cs vs:CK Ty) (S:St) (p:Val (tyL cs)) (v:Val (tyL vs)) (ν:Nat->Value) (a:Act) (w:World),yT T pin cs vs S=some (p,v)->Sim ν S a w ->
 ∃ν',Sim ν' (û T cs vs p v) a w/\Ev pin ν S.h w ν' (û T cs vs p v).h w/\pin<=(û T cs vs p v).h.length/\Dd pin S.h (û T cs vs p v).h
def UK:∀(l:CK (Exit×Tpl×CK Ty)) (e:Exit) (i j:Nat),alC l e i=some j->∃x,i<=j/\l[j-i]?=some x/\My x.1 e=true
 |[],_,_,_,h=>by cases h
 |x::l,e,i,j,h=>by
  unfold alC at h
  split at h
  ·rename_i b;cases h;exact⟨x,cX _,by simp,b⟩
  ·obtain⟨y,d,h2,c⟩:=UK l e (i+1) j h;refine⟨y,by omega,?_,c⟩;rw[show j-i=(j-(i+1))+1 by omega];simpa using h2
def abh {a b:Exit} (h:My a b=true):a=b:=by
 unfold My at h
 split at h
 ·rw[eq_of_beq h]
 ·rfl
 ·cases h
def ali (hM:aky) {E:Env ρ} {call:CK Nat->Bool->Nat->CK AV->CK Blk->(AV->CK Blk->BY ρ)->BY ρ} {N:Nat} (hE:nH E N call) (hD:xp E N call) {fid bid:Nat} {path:CK Nat} (O:path.length+2=N) {b:Code}
 (hin:∀x∈ß bid b,uZ E path fid x.1 x.2) (L:Æ)
 (bF:Val (tyL L.cs)->Val (tyL L.vs)->(Val (tyL L.vs)->BY ρ)->((i:Nat)->Val (tyL (L.zs i))->BY ρ)->BY ρ)
 (law:∀p v G kx,goC E call fid path L.pin bid b (û L.head L.cs L.vs p v) (EG L G kx)=bF p v (G p) (fun i=>kx i p)) {m:Nat} {S:St} {K:Exit->St->BY ρ} {r:ρ} {ν:Nat->Value} {a:Act} {w:World} (e:abj L bF m S K=some r) (H:Sim ν S a w) (hm:m<=S.h.length):(Code.loop b).wpIn fen 0 E.P (acI m ν S.h w K r) a w:=by
 unfold abj at e
 split at e<;>try (cases e; done)
 rename_i c;have c:m<=L.pin:=eW c
 split at e<;>try (cases e; done)
 rename_i p v B;obtain⟨n,hn⟩:=afJ e;obtain⟨d,H1,V,T,Y⟩:=hM _ _ _ _ _ _ _ ν a w B H;apply wpIn_loop_rounds n
 have key:∀(n:Nat) (p:Val (tyL L.cs)) (v:Val (tyL L.vs)) (d:Nat->Value) (q:Act) (f:World),akI (fun v G=>bF p v G fun i z=>K (L.xk i) (û (L.tpl i) L.cs (L.zs i) p z)) n v=some r ->
  Sim d (û L.head L.cs L.vs p v) q f->Ev m ν S.h w d (û L.head L.cs L.vs p v).h f->L.pin<=(û L.head L.cs L.vs p v).h.length->Dd m S.h (û L.head L.cs L.vs p v).h ->
  Code.roundsIn fen 0 E.P b (acI m ν S.h w K r) n q f:=by
  intro n
  induction n with
  |zero=>intro p v d q f e; cases e
  |succ n ih =>
   intro p v d q f e H1 V T Y;rw[roundsIn_succ];have hl:=law p v (fun p v=>akI (fun v G=>bF p v G fun i z=>K (L.xk i) (û (L.tpl i) L.cs (L.zs i) p z)) n v) (fun i p z=>K (L.xk i) (û (L.tpl i) L.cs (L.zs i) p z))
   have e':goC E call fid path L.pin bid b (û L.head L.cs L.vs p v) (EG L (fun p v=>akI (fun v G=>bF p v G fun i z=>K (L.xk i) (û (L.tpl i) L.cs (L.zs i) p z)) n v) (fun i p z=>K (L.xk i) (û (L.tpl i) L.cs (L.zs i) p z)))=some r:=by
    rw[hl]; exact e
   refine wpIn_mono (wL hE hD O b bid _ _ d q f hin e' H1 T) fun x A o ha=>?_;obtain⟨u,C,H2,ev2,hp2,dd2,k⟩:=ha;have I:Ev m ν S.h w u C.h o:=V.trans ev2 c;have J:Dd m S.h C.h:=Y.trans dd2 c
   have out:∀x,x≠.normal->EG L (fun p v=>akI (fun v G=>bF p v G fun i z=>K (L.xk i) (û (L.tpl i) L.cs (L.zs i) p z)) n v) (fun i p z=>K (L.xk i) (û (L.tpl i) L.cs (L.zs i) p z)) x C=some r->acI m ν S.h w K r x A o:=by
    intro x hx k;unfold EG at k
    split at k
    ·exact absurd rfl hx
    ·split at k<;>try (cases k; done)
     rename_i i hi
     split at k<;>try (cases k; done)
     rename_i Z z B;obtain⟨y,_,h1,h2⟩:=UK _ _ _ _ hi
     have hxk:L.xk i=x:=by
      have:L.exits[i]?=some y:=by simpa using h1
      unfold Æ.xk;rw[this];exact abh h2
     obtain⟨s,H3,U,R,W⟩:=hM _ _ _ _ _ _ _ u A o B H2;have k:K (L.xk i) (û (L.tpl i) L.cs (L.zs i) Z z)=some r:=k;rw[hxk] at k;exact⟨s,_,H3,I.trans U c,du c R,J.trans W c,k⟩
   cases x with
   |normal =>
    simp only[EG] at k
    split at k<;>try (cases k; done)
    rename_i Z v' B;obtain⟨s,H3,U,R,W⟩:=hM _ _ _ _ _ _ _ u A o B H2;exact ih Z v' s A o k H3 (I.trans U c) R (J.trans W c)
   |exit id=>exact out _ (by simp) k
   |ret=>exact out _ (by simp) k
   |goto l=>exact out _ (by simp) k
   |panic ch=>exact out _ (by simp) k
   |outgrown=>exact out _ (by simp) k
 exact key n p v d a w hn H1 (V.mono c) T (fun j hj hd=>Y j (by omega) hd)
end
end Go.Am
end

noncomputable section
namespace Go.Am
variable [Ghost]
section
variable {ν:Nat->Value} {h h':CK Blk} {w:World}
def aaw {t:Ty} {d:DV} {x:Val t} (e:QQ t d=some x):d=⟨t,x⟩:=by
 unfold QQ at e
 split at e<;>try (cases e; done)
 rename_i b _;obtain⟨ty,val⟩:=d;simp only at b;subst b;cases e;rfl
def ae2 (u:Ty) (l:CK Ty) (t:Ty) (d:DV) (b:CK DV):ae3 (u::l) t (d::b)=(match QQ t d with
 |some x=>match ae3 l u b with
  |some y=>some ((x,y):Val t×Val (tys u l))
  |none=>none
 |none=>none):=rfl
def ahS (t:Ty) (x:Val t):afo t [] x=[⟨t,x⟩]:=rfl
def afn (t u:Ty) (l:CK Ty) (x:Val t) (y:Val (tys u l)):afo t (u::l) ((x,y):Val t×Val (tys u l))=⟨t,x⟩::afo u l y:=rfl
def akP (l:CK Ty):∀(t:Ty) (b:CK DV) (x:Val (tys t l)),ae3 l t b=some x->afo t l x=b:=by
 induction l with
 |nil =>
  intro t b x e
  match b,e with
  |[],e=>exact absurd (show(none:BY (Val t))=some x from e) (fun h=>by cases h)
  |[d],e =>
   have e:QQ t d=some x:=e;rw[aaw e]; exact ahS t x
  |_::_::_,e=>exact absurd (show(none:BY (Val t))=some x from e) (fun h=>by cases h)
 |cons u l i =>
  intro t b x e
  match b,e with
  |[],e=>exact absurd (show(none:BY (Val t×Val (tys u l)))=some x from e) (fun h=>by cases h)
  |d::b,e =>
   rw[ae2] at e
   cases c:QQ t d with
   |none=>rw[c] at e; exact absurd (show(none:BY (Val t×Val (tys u l)))=some x from e) (fun h=>by cases h)
   |some y =>
    cases f:ae3 l u b with
    |none=>rw[c,f] at e; exact absurd (show(none:BY (Val t×Val (tys u l)))=some x from e) (fun h=>by cases h)
    |some z =>
     rw[c,f] at e;have e:((y,z):Val t×Val (tys u l))=x:=Option.some.inj e;rw[<-e,aaw c,<-i u b z f];exact afn t u l y z
def acU (l:CK Ty) (b:CK DV) (x:Val (tyL l)) (e:anb l b=some x):abw l x=b:=by
 cases l with
 |nil=>cases b with
  |nil=>rfl
  |cons=>cases e
 |cons t l=>exact akP l t b x e
def νb (B:CK Bd) (ν:Nat->Value) (i:Nat):Value :=
 match mE B i with
 |some (.at_ id)=>ν id
 |some .new=>.slice none 0 0
 |_=>undef
structure Ext (M M':Mt):Prop where
 bd:∀i id,mE M.bd i=some (.at_ id)->mE M'.bd i=some (.at_ id)
 new:∀i,mE M.bd i=some .new->mE M'.bd i=some .new
 cons:M.cons <+: M'.cons
 vars:M.vars <+: M'.vars
 freed:∀i∈M.freed,i∈M'.freed
 len:M'.bd.length=M.bd.length
def Ext.refl (M:Mt):Ext M M:=⟨fun _ _ h=>h,fun _ h=>h,eG,eG,fun _ h=>h,rfl⟩
def Ext.trans {M c b:Mt} (h:Ext M c) (k:Ext c b):Ext M b :=
 ⟨fun i id q=>k.bd i id (h.bd i id q),fun i q=>k.new i (h.new i q),h.cons.trans k.cons,h.vars.trans k.vars,fun i q=>k.freed i (h.freed i q),k.len.trans h.len⟩
def ol:∀(l:CK Bd) (d:Nat) (b:Bd) (i:Nat),mE (Nc l d b) i=if i=d/\d<l.length then some b else mE l i
 |[],d,v,i=>by simp[Nc,mE]
 |x::xs,0,v,0=>by simp[Nc,mE]
 |x::xs,0,v,i+1=>by simp[Nc,mE]
 |x::xs,d+1,v,0=>by simp[Nc,mE]
 |x::xs,d+1,v,i+1=>by simp[Nc,mE,ol xs d v i]
def Bp:∀(l:CK Bd) (d:Nat) (b:Bd),(Nc l d b).length=l.length
 |[],_,_=>rfl
 |_::_,0,_=>rfl
 |_::xs,d+1,v=>by simp[Nc,Bp xs d v]
def JX:∀{l:CK Bd} {i:Nat} {b:Bd},mE l i=some b->i<l.length
 |[],_,_,h=>by cases h
 |_::_,0,_,_=>gX _
 |_::_,i+1,_,h=>Nat.succ_lt_succ (JX (by simpa[mE] using h))
def mh {M d:Mt} {i id:Nat} (e:U4 M i id=some d):Ext M d/\mE d.bd i=some (.at_ id)/\d.cons=M.cons/\d.vars=M.vars:=by
 unfold U4 at e
 split at e<;>try (cases e; done)
 ·rename_i b;cases e;have k:=JX b;refine⟨⟨fun j f q=>?_,fun j q=>?_,eG,eG,fun _ q=>q,Bp _ _ _⟩,by simp[ol,k],rfl,rfl⟩
  ·simp only[ol]
   by_cases c:j=i
   ·subst c; rw[b] at q; cases q
   ·simp[c,q]
  ·simp only[ol]
   by_cases c:j=i
   ·subst c; rw[b] at q; cases q
   ·simp[c,q]
 ·rename_i f b
  split at e<;>try (cases e; done)
  rename_i hi;cases e;rw[eq_of_beq hi] at b;exact⟨Ext.refl _,b,rfl,rfl⟩
def Lg {M c:Mt} {i:Nat} (e:acz M i=some c):Ext M c/\mE c.bd i=some .new/\c.cons=M.cons/\c.vars=M.vars:=by
 unfold acz at e
 split at e<;>try (cases e; done)
 rename_i d;cases e;have f:=JX d;refine⟨⟨fun j k q=>?_,fun j q=>?_,eG,eG,fun _ q=>q,Bp _ _ _⟩,by simp[ol,f],rfl,rfl⟩
 ·simp only[ol]
  by_cases b:j=i
  ·subst b; rw[d] at q; cases q
  ·simp[b,q]
 ·simp only[ol]
  by_cases b:j=i
  ·subst b; rw[d] at q; cases q
  ·simp[b,q]
def kin:Blk->Blk->Prop
 |.row t _ false xs,B=>B=.row t 0 false xs
 |.row t g true xs,B=>B=.row t g true xs
 |.map k v es,B=>B=.map k v es
 |.cells _,B=>∃b,B=.cells b
 |.dead,B=>B=.dead
 |.acc t xs,B=>B=.acc t xs
structure Fin (ν:Nat->Value) (h:CK Blk) (w:World) (M:Mt) (h':CK Blk):Prop where
 at_:∀i id,mE M.bd i=some (.at_ id)->kin (lkB h id) (lkB h' i)
 new:∀i,mE M.bd i=some .new->∃t,lkB h' i=.row t 0 false []
 out:∀i,(∀id,mE M.bd i≠some (.at_ id))->mE M.bd i≠some .new->lkB h' i=.dead
 freed:∀id∈M.freed,∀i,mE M.bd i≠some (.at_ id)
 inj:∀i j id,mE M.bd i=some (.at_ id)->mE M.bd j=some (.at_ id)->i=j
def Fin.live {M:Mt} (F:Fin ν h w M h') {b:Nat} (hb:FT (νb M.bd ν) h' b):∃i id,mE M.bd i=some (.at_ id)/\(lkB h id).live=true/\ř (ν id) b:=by
 obtain⟨i,c,j⟩:=hb
 cases d:mE M.bd i with
 |none=>rw[F.out i (by simp[d]) (by simp[d])] at c; cases c
 |some bd =>
  cases bd with
  |open_=>rw[F.out i (by simp[d]) (by simp[d])] at c; cases c
  |new=>simp only[νb,d] at j; cases j
  |at_ id =>
   refine⟨i,id,d,?_,by simpa[νb,d] using j⟩;have f:=F.at_ i id d
   cases e:lkB h id with
   |dead=>rw[e] at f; rw[show lkB h' i=_ from f] at c; cases c
   |cells=>rfl
   |map=>rfl
   |acc=>rfl
   |row t g fz xs =>
    cases fz with
    |false=>rfl
    |true=>rw[e] at f; rw[show lkB h' i=_ from f] at c; cases c
def Fin.subL {M:Mt} (F:Fin ν h w M h') (b:Nat) (hb:FT (νb M.bd ν) h' b):FT ν h b:=by
 obtain⟨i,id,_,h2,c⟩:=F.live hb;exact⟨id,h2,c⟩
def Fin.sub {M:Mt} (F:Fin ν h w M h') (b:Nat) (hb:Av (νb M.bd ν) h' b):Av ν h b:=hb.imp_left (F.subL b)
def aet (H:HR ν h w) {M:Mt} (F:Fin ν h w M h') {t:Ty} {v:AV} {u:Value} {x:Val t} (A:∀i∈UI h v,i∈M.freed) (e:Ü t [ă h v]=some x) (z:VR ν h w v u) :
 VR (νb M.bd ν) h' w (af0 ⟨t,x⟩) u:=by
 have c:∀(q:v.isAgg=false) (p:v.isTup=false),CR w (Av (νb M.bd ν) h') t x [u]:=by
  intro q p;have m:=z.one q p;refine Ĥ e ⟨F3 H F.sub m fun id b B l hb=>?_,trivial⟩;rintro(hlive|s)
  rotate_left
  ·exact H.ghne id b l hb s
  obtain⟨i,o,h2,E,C⟩:=F.live hlive;have r:id=o:=H.inj id o b l E hb C;subst r;refine F.freed id (A id ?_) i h2;rcases B with⟨g,rfl⟩|⟨g,lo,n,rfl⟩|rfl
  ·obtain⟨_,y,g',fz,xs,j,_⟩:=m;rw[j] at l
   cases fz with
   |true=>cases l
   |false=>simp[UI,j]
  ·obtain⟨_,y,g',fz,xs,j,_⟩:=m;rw[j] at l
   cases fz with
   |true=>cases l
   |false=>simp[UI,j]
  ·simp[UI]
 have fin:(t≠.unit/\∀a b,t≠.pair a b)->v.isAgg=false/\v.isTup=false:=fun⟨m,h2⟩=>by
  constructor
  ·cases v<;>try rfl
   cases t<;>first|(exact absurd rfl m)|(exact absurd rfl (h2 _ _))|(simp[ă,Ü,Β] at e)
  ·cases v<;>try rfl
   cases t<;>first|(exact absurd rfl m)|(exact absurd rfl (h2 _ _))|(simp[ă,Ü,Β] at e)
 cases t with
 |unit=>trivial
 |pair a b=>trivial
 |bool=>obtain⟨f,d⟩:=fin ⟨by simp,by simp⟩; exact Ld (c f d)
 |int k=>obtain⟨f,d⟩:=fin ⟨by simp,by simp⟩; exact Ld (c f d)
 |str=>obtain⟨f,d⟩:=fin ⟨by simp,by simp⟩; exact Ld (c f d)
 |slice t=>obtain⟨f,d⟩:=fin ⟨by simp,by simp⟩; exact Ld (c f d)
 |map k v=>obtain⟨f,d⟩:=fin ⟨by simp,by simp⟩; exact Ld (c f d)
 |ptr t=>obtain⟨f,d⟩:=fin ⟨by simp,by simp⟩; exact Ld (c f d)
def ő {α:Type} {l C:CK α} {d:α} (h:(l++[d]) <+: C):C.drop l.length=d::C.drop (l.length+1):=by
 obtain⟨t,rfl⟩:=h;simp[dg]
def rz {B:CK Bd} {i id:Nat} (h:mE B i=some (.at_ id)):νb B ν i=ν id:=by simp[νb,h]
def agQ {B:CK Bd} {i:Nat} (h:mE B i=some .new):νb B ν i=.slice none 0 0:=by simp[νb,h]
def lJ:∀(ps:CK (Nat×Nat)) (vs:CK AV) (us:CK Value) (M M1:Mt),zT h ps vs M=some M1->Ext M M1/\M1.cons=M.cons/\M1.vars=M.vars /\
 ∀d,Ext M1 d->Fin ν h w d h'->ĕ (VR0 ν h w) vs us->ĕ (VR0 (νb d.bd ν) h' w) (ps.map fun c=>.box c.1 c.2) us
 |[],[],us,M,M1,e=>by
  cases e;exact⟨Ext.refl _,rfl,rfl,fun d _ _ f=>by cases us with|nil=>trivial|cons=>exact f.elim⟩
 |[],_::_,_,_,_,e=>by cases e
 |_::_,[],_,_,_,e=>by cases e
 |(i,o)::ps,v::vs,us,M,M1,e=>by
  cases v<;>try (simp[zT] at e; done)
  rename_i id off;simp only[zT] at e
  split at e<;>try (cases e; done)
  rename_i r
  split at e<;>try (cases e; done)
  rename_i cs s
  split at e<;>try (cases e; done)
  rename_i q hb;obtain⟨y,C,B,v1⟩:=mh hb;obtain⟨p,A,v2,_⟩:=lJ ps vs us q M1 e;refine⟨y.trans p,A.trans B,v2.trans v1,fun d m F f=>?_⟩
  cases us with
  |nil=>exact f.elim
  |cons u us =>
   refine⟨?_,(lJ ps vs us q M1 e).2.2.2 d m F f.2⟩;obtain⟨z,b,E,h2,x⟩:=f.1;have j:=m.bd i id (p.bd i id C);have k:=F.at_ i id j;rw[s] at k;obtain⟨l,k⟩:=k;exact⟨l,b,k,(rz j).trans h2,by rw[eq_of_beq r]; exact x⟩
def rest (b M:Mt):It:=⟨b.cons.drop M.cons.length,b.vars.drop M.vars.length⟩
def vf:∀(ts:CK Ty) (vs:CK AV) (M M1:Mt),zS ts vs M=some M1->Ext M M1/\∀c,Ext M1 c->(Cl ts (rest c M)).2=rest c M1 /\
 ∀us:CK Value,Fin ν h w c h'->ĕ (VR0 ν h w) vs us->ĕ (VR0 (νb c.bd ν) h' w) (Cl ts (rest c M)).1 us
 |[],[],M,M1,e=>by
  cases e;exact⟨Ext.refl _,fun c _=>⟨rfl,fun us _ d=>by cases us with|nil=>trivial|cons=>exact d.elim⟩⟩
 |[],_::_,_,_,e=>by cases e
 |_::_,[],_,_,e=>by cases e
 |t::ts,v::vs,M,M1,e=>by
  cases v<;>try (simp[zS] at e; done)
  rename_i i x o;simp only[zS] at e
  split at e<;>try (cases e; done)
  rename_i f
  split at e<;>try (cases e; done)
  rename_i E _;have f:=dq f;subst f;obtain⟨m,r⟩:=vf ts vs _ M1 e;have C:Ext M {M with cons:=M.cons++[⟨.ptr i,x⟩]}:=⟨fun _ _ q=>q,fun _ q=>q,eh _ _,eG,fun _ q=>q,rfl⟩;refine⟨C.trans m,fun c l=>?_⟩;obtain⟨k,j⟩:=r c l;have hd:=ő (m.trans l).cons
  have s:rest c {M with cons:=M.cons++[⟨.ptr i,x⟩]}=⟨c.cons.drop (M.cons.length+1),c.vars.drop M.vars.length⟩:=by simp[rest]
  rw[s] at k j;simp only[rest,Cl,hd];refine⟨k,fun us F d=>?_⟩
  cases us with
  |nil=>exact d.elim
  |cons u us =>
   refine⟨?_,j us F d.2⟩;obtain⟨b,o,p,B,h2,A,z,y⟩:=d.1;exact⟨b,o,p,B,fun h=>h2 (F.sub b h),A,CR.mono F.sub z,y⟩
def N1 (H:HR ν h w) {p:Pat} {v:AV} {M M1:Mt} (e:i8 h p v M=some M1):Ext M M1/\∀c u,Ext M1 c->Fin ν h w c h'->VR ν h w v u ->
 VR (νb c.bd ν) h' w (yp p ⟨c.cons.drop M.cons.length,c.vars.drop M.vars.length⟩).1 u /\
  (yp p ⟨c.cons.drop M.cons.length,c.vars.drop M.vars.length⟩).2=⟨c.cons.drop M1.cons.length,c.vars.drop M1.vars.length⟩:=by
 cases p with
 |any=>cases e; exact⟨Ext.refl _,fun c u _ _ _=>⟨trivial,rfl⟩⟩
 |con t =>
  simp only[i8] at e
  split at e<;>try (cases e; done)
  rename_i x G;cases e;refine⟨⟨fun _ _ q=>q,fun _ q=>q,eh _ _,eG,fun _ q=>dN _ q,rfl⟩,fun c u j F d=>?_⟩;have hd:=ő j.cons;simp only[yp,hd];exact⟨aet H F (fun i hi=>j.freed i (dR _ hi)) G d,by simp⟩
 |var t =>
  simp only[i8] at e
  split at e<;>try (cases e; done)
  rename_i x G;cases e;refine⟨⟨fun _ _ q=>q,fun _ q=>q,eG,eh _ _,fun _ q=>dN _ q,rfl⟩,fun c u j F d=>?_⟩;have hd:=ő j.vars;simp only[yp,hd];exact⟨aet H F (fun i hi=>j.freed i (dR _ hi)) G d,by simp⟩
 |own i =>
  simp only[i8] at e
  split at e<;>try (cases e; done)
  ·rename_i id g
   split at e<;>try (cases e; done)
   rename_i t g' xs z
   split at e<;>try (cases e; done)
   rename_i U;obtain⟨o,y,r,v1⟩:=mh e;refine⟨o,fun c u j F d=>⟨?_,by simp only[yp,r,v1]⟩⟩;have l:=j.bd i id y;have m:=F.at_ i id l;rw[z] at m;obtain⟨J,t2,g2,W,S,s,_,I⟩:=d;rw[z] at s; cases s;exact⟨J,t,0,false,xs,m,cX _,fun _=>(I (eq_of_beq U)).trans (rz l).symm⟩
  ·obtain⟨o,y,r,v1⟩:=Lg e;refine⟨o,fun c u j F d=>⟨?_,by simp only[yp,r,v1]⟩⟩;have B:=j.new i y;obtain⟨t,m⟩:=F.new i B;have R:u=.slice none 0 0:=d;exact⟨by rw[R]; rfl,t,0,false,[],m,cX _,fun _=>R.trans (agQ B).symm⟩
 |omp i =>
  simp only[i8] at e
  split at e<;>try (cases e; done)
  rename_i id
  split at e<;>try (cases e; done)
  rename_i k T es z;obtain⟨o,y,r,v1⟩:=mh e;refine⟨o,fun c u j F d=>⟨?_,by simp only[yp,r,v1]⟩⟩;have l:=j.bd i id y;have m:=F.at_ i id l;rw[z] at m;obtain⟨J,O,v2,Z,s,I⟩:=d;exact⟨J,k,T,es,m,I.trans (rz l).symm⟩
 |box i off =>
  simp only[i8] at e
  split at e<;>try (cases e; done)
  rename_i id N
  split at e<;>try (cases e; done)
  rename_i A
  split at e<;>try (cases e; done)
  rename_i cs z;obtain⟨o,y,r,v1⟩:=mh e;refine⟨o,fun c u j F d=>⟨?_,by simp only[yp,r,v1]⟩⟩;have l:=j.bd i id y;have m:=F.at_ i id l;rw[z] at m;obtain⟨L,m⟩:=m;obtain⟨cs',b,h1,h2,V⟩:=d;exact⟨L,b,m,(rz l).trans h2,by rw[eq_of_beq A]; exact V⟩
 |nils =>
  simp only[i8] at e
  split at e<;>try (cases e; done)
  cases e;exact⟨Ext.refl _,fun c u _ _ d=>⟨d,rfl⟩⟩
 |nilp =>
  simp only[i8] at e
  split at e<;>try (cases e; done)
  cases e;exact⟨Ext.refl _,fun c u _ _ d=>⟨d,rfl⟩⟩
 |nilfn =>
  simp only[i8] at e
  split at e<;>try (cases e; done)
  cases e;exact⟨Ext.refl _,fun c u _ _ d=>⟨d,rfl⟩⟩
 |yld =>
  simp only[i8] at e
  split at e<;>try (cases e; done)
  cases e;exact⟨Ext.refl _,fun c u _ _ d=>⟨d,rfl⟩⟩
 |fn f caps =>
  simp only[i8] at e
  split at e<;>try (cases e; done)
  rename_i Y vs
  split at e<;>try (cases e; done)
  rename_i K;obtain⟨o,r,v1,_⟩:=lJ (ν:=ν) (w:=w) (h':=h') caps vs [] M M1 e;refine⟨o,fun c u j F d=>⟨?_,by simp only[yp,r,v1]⟩⟩;obtain⟨fs,cs,rfl,E,C⟩:=d;have:=(lJ (ν:=ν) (w:=w) (h':=h') caps vs cs.toList M M1 e).2.2.2 c j F C;exact⟨fs,cs,by rw[eq_of_beq K],by rw[E.nil_left]; trivial,this⟩
 |fnd f ts =>
  simp only[i8] at e
  split at e<;>try (cases e; done)
  rename_i Y vs
  split at e<;>try (cases e; done)
  rename_i K;obtain⟨o,k⟩:=vf (ν:=ν) (h:=h) (w:=w) (h':=h') ts vs M M1 e;refine⟨o,fun c u j F d=>?_⟩;obtain⟨k1,O⟩:=k c j;obtain⟨fs,cs,rfl,E,C⟩:=d;exact⟨⟨fs,cs,by rw[eq_of_beq K],by rw[E.nil_left]; trivial,O cs.toList F C⟩,k1⟩
def Nq {b M M1:Mt} (c:M1.cons=M.cons) (h2:M1.vars=M.vars):rest b M=rest b M1:=by simp only[rest,c,h2]
def xD {p:Pat} {v:AV} {M M1:Mt} (e:i8 h p v M=some M1):Ext M M1/\∀b,Ext M1 b->(yp p (rest b M)).2=rest b M1:=by
 cases p with
 |any=>cases e; exact⟨Ext.refl _,fun b _=>rfl⟩
 |con t =>
  simp only[i8] at e
  split at e<;>try (cases e; done)
  rename_i x m;cases e;refine⟨⟨fun _ _ q=>q,fun _ q=>q,eh _ _,eG,fun _ q=>dN _ q,rfl⟩,fun b d=>?_⟩;have hd:=ő d.cons;simp only[rest,yp,hd]; simp
 |var t =>
  simp only[i8] at e
  split at e<;>try (cases e; done)
  rename_i x m;cases e;refine⟨⟨fun _ _ q=>q,fun _ q=>q,eG,eh _ _,fun _ q=>dN _ q,rfl⟩,fun b d=>?_⟩;have hd:=ő d.vars;simp only[rest,yp,hd]; simp
 |own i =>
  simp only[i8] at e
  split at e<;>try (cases e; done)
  ·split at e<;>try (cases e; done)
   split at e<;>try (cases e; done)
   obtain⟨c,l,j,v1⟩:=mh e;exact⟨c,fun b d=>Nq j v1⟩
  ·obtain⟨c,l,j,v1⟩:=Lg e;exact⟨c,fun b d=>Nq j v1⟩
 |omp i =>
  simp only[i8] at e
  split at e<;>try (cases e; done)
  split at e<;>try (cases e; done)
  obtain⟨c,l,j,v1⟩:=mh e;exact⟨c,fun b d=>Nq j v1⟩
 |box i off =>
  simp only[i8] at e
  split at e<;>try (cases e; done)
  split at e<;>try (cases e; done)
  split at e<;>try (cases e; done)
  obtain⟨c,l,j,v1⟩:=mh e;exact⟨c,fun b d=>Nq j v1⟩
 |nils =>
  simp only[i8] at e
  split at e<;>try (cases e; done)
  cases e; exact⟨Ext.refl _,fun b _=>rfl⟩
 |nilp =>
  simp only[i8] at e
  split at e<;>try (cases e; done)
  cases e; exact⟨Ext.refl _,fun b _=>rfl⟩
 |nilfn =>
  simp only[i8] at e
  split at e<;>try (cases e; done)
  cases e; exact⟨Ext.refl _,fun b _=>rfl⟩
 |yld =>
  simp only[i8] at e
  split at e<;>try (cases e; done)
  cases e; exact⟨Ext.refl _,fun b _=>rfl⟩
 |fn f caps =>
  simp only[i8] at e
  split at e<;>try (cases e; done)
  rename_i o vs
  split at e<;>try (cases e; done)
  obtain⟨c,j,v1,_⟩:=lJ (ν:=fun _=>undef) (w:=default) (h':=[]) caps vs [] M M1 e;exact⟨c,fun b d=>Nq j v1⟩
 |fnd f ts =>
  simp only[i8] at e
  split at e<;>try (cases e; done)
  rename_i o vs
  split at e<;>try (cases e; done)
  obtain⟨c,k⟩:=vf (ν:=fun _=>undef) (h:=[]) (w:=default) (h':=[]) ts vs M M1 e;exact⟨c,fun b d=>(k b d).1⟩
def wK (p:Pat) (ps:CK Pat) (I:It):J1 (p::ps) I=((yp p I).1::(J1 ps (yp p I).2).1,(J1 ps (yp p I).2).2):=rfl
def ES:∀{ps:CK Pat} {vs:CK AV} {M M1:Mt},TO h ps vs M=some M1->Ext M M1/\∀b,Ext M1 b->(J1 ps (rest b M)).2=rest b M1
 |[],vs,M,M1,e=>by cases e; exact⟨Ext.refl _,fun b _=>rfl⟩
 |p::ps,vs,M,M1,e=>by
  simp only[TO] at e
  split at e<;>try (cases e; done)
  rename_i k i;obtain⟨j,f⟩:=xD i;obtain⟨d,t2⟩:=ES e;exact⟨j.trans d,fun b c=>by rw[wK,f b (d.trans c)]; exact t2 b c⟩
def YT (H:HR ν h w):∀{ps:CK Pat} {vs:CK AV} {M M1:Mt},TO h ps vs M=some M1->∀b,Ext M1 b->Fin ν h w b h'->∀f:Nat->Value,(∀k,VR ν h w (lk vs k) (f k)) ->
 ∀k,VR (νb b.bd ν) h' w (lk (J1 ps (rest b M)).1 k) (f k)
 |[],vs,M,M1,e,b,_,_,f,_,k=>trivial
 |p::ps,vs,M,M1,e,b,c,F,f,d,k=>by
  simp only[TO] at e
  split at e<;>try (cases e; done)
  rename_i q i;obtain⟨o,l⟩:=xD i;obtain⟨j,t2⟩:=ES e;rw[wK,l b (j.trans c)]
  cases k with
  |zero=>exact((N1 H i).2 b (f 0) (j.trans c) F (d 0)).1
  |succ k =>
   have m:∀k,lk vs.tail k=lk vs (k+1):=fun k=>by cases vs<;>rfl
   exact YT H e b c F (fun k=>f (k+1)) (fun k=>by rw[m]; exact d (k+1)) k
def rH:∀{ps:CK Pat} {vs:CK AV} {M M1:Mt},rh h ps vs M=some M1->Ext M M1/\∀b,Ext M1 b->(J1 ps (rest b M)).2=rest b M1
 |[],[],M,M1,e=>by cases e; exact⟨Ext.refl _,fun b _=>rfl⟩
 |[],_::_,M,M1,e=>by cases e
 |_::_,[],M,M1,e=>by cases e
 |p::ps,v::vs,M,M1,e=>by
  simp only[rh] at e
  split at e<;>try (cases e; done)
  rename_i k i;obtain⟨j,f⟩:=xD i;obtain⟨d,t2⟩:=rH e;exact⟨j.trans d,fun b c=>by rw[wK,f b (d.trans c)]; exact t2 b c⟩
def afP (p:Pat) (I:It):(yp p I).1.isAgg=false/\(yp p I).1.isTup=false:=by
 have b:∀d:DV,(af0 d).isAgg=false/\(af0 d).isTup=false:=fun d=>by
  obtain⟨t,x⟩:=d
  cases t<;>exact⟨rfl,rfl⟩
 cases p<;>simp only[yp]<;>try exact⟨rfl,rfl⟩
 ·split<;>first|exact b _|exact⟨rfl,rfl⟩
 ·split<;>first|exact b _|exact⟨rfl,rfl⟩
def Gv (H:HR ν h w):∀{ps:CK Pat} {vs:CK AV} {us:CK Value} {M M1:Mt},rh h ps vs M=some M1->∀b,Ext M1 b->Fin ν h w b h'->ĕ (VRc ν h w) vs us ->
 ĕ (VRc (νb b.bd ν) h' w) (J1 ps (rest b M)).1 us
 |[],[],us,M,M1,e,b,_,_,c=>by cases us with|nil=>trivial|cons=>exact c.elim
 |[],_::_,_,M,M1,e,_,_,_,_=>by cases e
 |_::_,[],_,M,M1,e,_,_,_,_=>by cases e
 |p::ps,v::vs,us,M,M1,e,b,f,F,c=>by
  simp only[rh] at e
  split at e<;>try (cases e; done)
  rename_i m i;obtain⟨l,k⟩:=xD i;obtain⟨j,t2⟩:=rH e;rw[wK,k b (j.trans f)]
  cases us with
  |nil=>exact c.elim
  |cons u us =>
   have h2:=((N1 H i).2 b u (j.trans f) F c.1.1.up).1;have d:=afP p (rest b M);exact⟨⟨h2.one d.1 d.2,c.1.2⟩,Gv H e b f F c.2⟩
def MX (M:Mt) (d:DV):Ext M {M with cons:=M.cons++[d]}:=⟨fun _ _ q=>q,fun _ q=>q,eh _ _,eG,fun _ q=>q,rfl⟩
def MW (M:Mt) (d:DV):Ext M {M with vars:=M.vars++[d]}:=⟨fun _ _ q=>q,fun _ q=>q,eG,eh _ _,fun _ q=>q,rfl⟩
def N0 {p:jB} {i:Nat} {M M1:Mt} (e:mL h p i M=some M1):Ext M M1/\∀c,Ext M1 c->(C7 p (rest c M)).2=rest c M1 /\
 ((∃id,mE M.bd i=some (.at_ id)/\kin (lkB h id) (C7 p (rest c M)).1)\/(mE M.bd i=some .new/\∃t,(C7 p (rest c M)).1=.row t 0 false [])):=by
 cases p with
 |dead =>
  simp only[mL] at e
  split at e<;>try (cases e; done)
  rename_i id hb
  split at e<;>try (cases e; done)
  rename_i d;cases e;exact⟨Ext.refl _,fun c _=>⟨rfl,.inl ⟨id,hb,by rw[d]; rfl⟩⟩⟩
 |cells ps =>
  simp only[mL] at e
  split at e<;>try (cases e; done)
  rename_i id hb
  split at e<;>try (cases e; done)
  rename_i cs d;obtain⟨q,l⟩:=rH e;exact⟨q,fun c b=>⟨l c b,.inl ⟨id,hb,by rw[d]; exact⟨_,rfl⟩⟩⟩⟩
 |rowc t =>
  simp only[mL] at e
  split at e<;>try (cases e; done)
  ·rename_i id hb
   split at e<;>try (cases e; done)
   rename_i f g xs d
   split at e<;>try (cases e; done)
   cases e;refine⟨MX _ _,fun c b=>?_⟩;have hd:=ő b.cons;simp only[rest,C7,hd];exact⟨by simp,.inl ⟨id,hb,by rw[d]; rfl⟩⟩
  ·rename_i hb;cases e;refine⟨MX _ _,fun c b=>?_⟩;have hd:=ő b.cons;simp only[rest,C7,hd];exact⟨by simp,.inr ⟨hb,t,rfl⟩⟩
 |rowf t g =>
  simp only[mL] at e
  split at e<;>try (cases e; done)
  rename_i id hb
  split at e<;>try (cases e; done)
  rename_i f g' xs d
  split at e<;>try (cases e; done)
  split at e<;>try (cases e; done)
  rename_i o _;subst o;cases e;refine⟨MX _ _,fun c b=>?_⟩;have hd:=ő b.cons;simp only[rest,C7,hd];exact⟨by simp,.inl ⟨id,hb,by rw[d]; rfl⟩⟩
 |rowv t =>
  simp only[mL] at e
  split at e<;>try (cases e; done)
  ·rename_i id hb
   split at e<;>try (cases e; done)
   rename_i f g xs d
   split at e<;>try (cases e; done)
   cases e;refine⟨MW _ _,fun c b=>?_⟩;have hd:=ő b.vars;simp only[rest,C7,hd];exact⟨by simp,.inl ⟨id,hb,by rw[d]; rfl⟩⟩
  ·rename_i hb;cases e;refine⟨MW _ _,fun c b=>?_⟩;have hd:=ő b.vars;simp only[rest,C7,hd];exact⟨by simp,.inr ⟨hb,t,rfl⟩⟩
 |mapc k v =>
  simp only[mL] at e
  split at e<;>try (cases e; done)
  rename_i id hb
  split at e<;>try (cases e; done)
  rename_i m j es d
  split at e<;>try (cases e; done)
  cases e;refine⟨MX _ _,fun c b=>?_⟩;have hd:=ő b.cons;simp only[rest,C7,hd];exact⟨by simp,.inl ⟨id,hb,by rw[d]; rfl⟩⟩
 |mapv k v =>
  simp only[mL] at e
  split at e<;>try (cases e; done)
  rename_i id hb
  split at e<;>try (cases e; done)
  rename_i m j es d
  split at e<;>try (cases e; done)
  cases e;refine⟨MW _ _,fun c b=>?_⟩;have hd:=ő b.vars;simp only[rest,C7,hd];exact⟨by simp,.inl ⟨id,hb,by rw[d]; rfl⟩⟩
 |acc t =>
  simp only[mL] at e
  split at e<;>try (cases e; done)
  rename_i id hb
  split at e<;>try (cases e; done)
  rename_i f xs d
  split at e<;>try (cases e; done)
  cases e;refine⟨MW _ _,fun c b=>?_⟩;have hd:=ő b.vars;simp only[rest,C7,hd];exact⟨by simp,.inl ⟨id,hb,by rw[d]; rfl⟩⟩
def ah5 (H:HR ν h w) {p:jB} {i id:Nat} {M M1:Mt} {cs:CK AV} (e:mL h p i M=some M1) (hb:mE M.bd i=some (.at_ id)) (b:lkB h id=.cells cs) {d:Mt} (j:Ext M1 d) (F:Fin ν h w d h') {us:CK Value} (f:ĕ (VRc ν h w) cs us) :
 ∃c,(C7 p (rest d M)).1=.cells c/\ĕ (VRc (νb d.bd ν) h' w) c us:=by
 cases p with
 |cells ps =>
  simp only[mL,hb,b] at e;exact⟨_,rfl,Gv H e d j F f⟩
 |dead=>simp[mL,hb,b] at e
 |rowc t=>simp[mL,hb,b] at e
 |rowf t g=>simp[mL,hb,b] at e
 |rowv t=>simp[mL,hb,b] at e
 |mapc k v=>simp[mL,hb,b] at e
 |mapv k v=>simp[mL,hb,b] at e
 |acc t=>simp[mL,hb,b] at e
def J2 (p:jB) (ps:CK jB) (I:It):Il (p::ps) I=((C7 p I).1::(Il ps (C7 p I).2).1,(Il ps (C7 p I).2).2):=rfl
def Bs:∀(ps:CK jB) (I:It),(Il ps I).1.length=ps.length
 |[],_=>rfl
 |p::ps,I=>by rw[J2]; simp[Bs ps]
def ET:∀{ps:CK jB} {i:Nat} {M M1:Mt},TP h ps i M=some M1->Ext M M1/\∀b,Ext M1 b->∀k,k<ps.length ->
 (∃id,mE b.bd (i+k)=some (.at_ id)/\kin (lkB h id) (lkB (Il ps (rest b M)).1 k))\/(mE b.bd (i+k)=some .new/\∃t,lkB (Il ps (rest b M)).1 k=.row t 0 false [])
 |[],i,M,M1,e=>by cases e; exact⟨Ext.refl _,fun b _ k l=>by simp at l⟩
 |p::ps,i,M,M1,e=>by
  simp only[TP] at e
  split at e<;>try (cases e; done)
  rename_i u s;obtain⟨m,r⟩:=N0 s;obtain⟨d,t2⟩:=ET e;refine⟨m.trans d,fun b c k l=>?_⟩;obtain⟨q,o⟩:=r b (d.trans c);rw[J2,q]
  cases k with
  |zero =>
   rcases o with⟨id,j,f⟩|⟨j,f⟩
   ·exact .inl ⟨id,(m.trans (d.trans c)).bd _ _ j,f⟩
   ·exact .inr ⟨(m.trans (d.trans c)).new _ j,f⟩
  |succ k =>
   have:=t2 b c k (by simpa using l);rw[show i+(k+1)=i+1+k by omega];exact this
def YU (H:HR ν h w):∀{ps:CK jB} {i:Nat} {M M1:Mt},TP h ps i M=some M1->∀c,Ext M1 c->Fin ν h w c h'->∀k id cs us,k<ps.length->mE c.bd (i+k)=some (.at_ id)->lkB h id=.cells cs->ĕ (VRc ν h w) cs us ->
 ∃f,lkB (Il ps (rest c M)).1 k=.cells f/\ĕ (VRc (νb c.bd ν) h' w) f us
 |[],i,M,M1,e,c,_,_,k,_,_,_,m,_,_,_=>by simp at m
 |p::ps,i,M,M1,e,c,d,F,k,id,cs,us,m,hb,q,o=>by
  simp only[TP] at e
  split at e<;>try (cases e; done)
  rename_i A r;obtain⟨s,x⟩:=N0 r;obtain⟨l,t2⟩:=ET e;obtain⟨v,u⟩:=x c (l.trans d);rw[J2,v]
  cases k with
  |zero =>
   rcases u with⟨z,j,y⟩|⟨j,y⟩
   ·have:=(s.trans (l.trans d)).bd _ _ j;have b:mE c.bd i=some (.at_ id):=hb;rw[this] at b;cases b;exact ah5 H r j q (l.trans d) F o
   ·have:=(s.trans (l.trans d)).new _ j;have b:mE c.bd i=some (.at_ id):=hb;rw[this] at b;cases b
  |succ k=>exact YU H e c d F k id cs us (by simpa using m) (by rw[show i+1+k=i+(k+1) by omega]; exact hb) q o
def Ir:∀{l:CK Bd} {i id:Nat},mE l i=some (.at_ id)->id∈Mj l
 |[],_,_,h=>by cases h
 |x::l,0,id,h=>by
  simp only[mE,Option.some.injEq] at h;subst h; simp[Mj]
 |x::l,i+1,id,h=>by
  have:=Ir (l:=l) (i:=i) (id:=id) h
  cases x<;>simp[Mj,this]
def Le:∀{l:CK Bd} {i j id:Nat},distinct (Mj l)=true->mE l i=some (.at_ id)->mE l j=some (.at_ id)->i=j
 |[],_,_,_,_,h,_=>by cases h
 |x::l,0,0,_,_,_,_=>rfl
 |x::l,0,j+1,id,hd,b,h2=>by
  simp only[mE,Option.some.injEq] at b;subst b;simp only[Mj,distinct,cW] at hd;have:=Ir (l:=l) (i:=j) (id:=id) h2;simp[this] at hd
 |x::l,i+1,0,id,hd,b,h2=>by
  simp only[mE,Option.some.injEq] at h2;subst h2;simp only[Mj,distinct,cW] at hd;have:=Ir (l:=l) (i:=i) (id:=id) b;simp[this] at hd
 |x::l,i+1,j+1,id,hd,b,h2=>by
  have c:distinct (Mj l)=true:=by
   cases x<;>simp only[Mj,distinct,cW] at hd<;>first|exact hd|exact hd.2
  rw[Le (l:=l) c b h2]
def ae6 {pin n i:Nat} (hi:i<pin) (c:pin<=n):mE (EH pin n) i=some (.at_ i):=by
 have key:∀(l:CK Bd) (k:Nat),mE l k=l[k]?:=by
  intro l
  induction l with
  |nil=>intro k; simp[mE]
  |cons x l b=>intro k; cases k with
   |zero=>rfl
   |succ k=>simpa[mE] using b k
 rw[key,EH,eP,gu (by omega)];simp[hi]
def UG:∀{pin:Nat},alB h pin=true->∀i,i<pin->∀t g xs,lkB h i=.row t g false xs->g=0
 |0,_,i,hi,_,_,_,_=>by omega
 |pin+1,b,i,hi,t,g,xs,d=>by
  simp only[alB] at b
  split at b<;>try (cases b; done)
  rename_i c;rcases gY.1 hi with e|rfl
  ·exact UG b i e t g xs d
  ·cases g with
   |zero=>rfl
   |succ g=>exact absurd d (c _ _ _)
def Ux:∀(l:CK AV) (n k:Nat),lk (l++List.replicate n .any) k=lk l k
 |[],0,_=>rfl
 |[],n+1,0=>rfl
 |[],n+1,k+1=>by simpa[gk,lk] using Ux [] n k
 |x::l,n,0=>rfl
 |x::l,n,k+1=>by simpa[lk] using Ux l n k
def K6:∀(ps:CK Pat) (I:It),(J1 ps I).1.length=ps.length
 |[],_=>rfl
 |p::ps,I=>by rw[wK]; simp[K6 ps]
def MC:aky:=by
 intro T pin cs vs S p v ν a w e H;unfold yT at e
 split at e<;>try (cases e; done)
 rename_i hc;simp only[cW,decide_eq_true_eq] at hc;obtain⟨c1,c2,c3,c4⟩:=hc
 split at e<;>try (cases e; done)
 rename_i N hL
 split at e<;>try (cases e; done)
 rename_i M hH
 split at e<;>try (cases e; done)
 rename_i hd;simp only[cW,dC] at hd;obtain⟨d1,d2⟩:=hd
 split at e<;>try (cases e; done)
 rename_i p' v' hp hv;cases e;have ep:abw cs p=M.cons:=acU cs _ _ hp;have ev:abw vs v=M.vars:=acU vs _ _ hv;obtain⟨eL,tL⟩:=ES hL;obtain⟨Y,Z⟩:=ET hH
 -- the state of the pattern
 have hI0:({cons:=abw cs p,vars:=abw vs v}:It)=rest M {bd:=EH pin T.heap.length,cons:=[],vars:=[],freed:=[]}:=by
  simp[rest,ep,ev]
 have J:û T cs vs p v={t:=(J1 T.slots (rest M {bd:=EH pin T.heap.length,cons:=[],vars:=[],freed:=[]})).1++List.replicate (T.n-T.slots.length) .any,h:=(Il T.heap (rest M N)).1}:=by
  unfold û;rw[hI0];have:=tL M Y;show(St.mk _ _)=_;rw[show(J1 T.slots (rest M {bd:=EH pin T.heap.length,cons:=[],vars:=[],freed:=[]})).2=rest M N from this]
 rw[J]
 have q:M.bd.length=T.heap.length:=by rw[Y.len,eL.len]; simp[EH]
 have z:(Il T.heap (rest M N)).1.length=T.heap.length:=Bs _ _
 have F:Fin ν S.h w M (Il T.heap (rest M N)).1:=by
  refine⟨fun i id hb=>?_,fun i hb=>?_,fun i h1 h2=>?_,fun id hid i hb=>?_,fun i j id=>Le d1⟩
  ·have hi:i<T.heap.length:=by rw[<-q]; exact JX hb
   rcases Z M (Ext.refl _) i hi with⟨y,d,l⟩|⟨d,_⟩
   ·rw[dH,hb] at d; cases d; exact l
   ·rw[dH,hb] at d; cases d
  ·have hi:i<T.heap.length:=by rw[<-q]; exact JX hb
   rcases Z M (Ext.refl _) i hi with⟨y,d,l⟩|⟨d,l⟩
   ·rw[dH,hb] at d; cases d
   ·exact l
  ·rcases dl i T.heap.length with hi|hi
   ·rcases Z M (Ext.refl _) i hi with⟨y,d,l⟩|⟨d,l⟩
    ·rw[dH] at d; exact absurd d (h1 y)
    ·rw[dH] at d; exact absurd d h2
   ·exact Z3 _ _ (by rw[z]; exact hi)
  ·have:=d2 id hid;have hm:=Ir hb;simp[hm] at this
 have hHR:HR (νb M.bd ν) (Il T.heap (rest M N)).1 w:=by
  refine⟨fun i=>?_,fun i j b hi hj A hbj=>?_,H.heap.ghlt,fun i b r hb hg=>?_⟩
  rotate_left 2
  ·obtain⟨id,d,l⟩:=F.subL b ⟨i,r,hb⟩;exact H.heap.ghne id b d l hg
  ·cases hb:mE M.bd i with
   |none=>rw[F.out i (by simp[hb]) (by simp[hb])]; trivial
   |some x =>
    cases x with
    |open_=>rw[F.out i (by simp[hb]) (by simp[hb])]; trivial
    |new =>
     obtain⟨t,ht⟩:=F.new i hb;rw[ht];exact⟨none,0,agQ hb,cX _,.inl ⟨rfl,rfl⟩⟩
    |at_ id =>
     have f:=F.at_ i id hb;have E:=H.heap.blk id
     cases r:lkB S.h id with
     |dead=>rw[r] at f; rw[show lkB _ i=_ from f]; trivial
     |cells c =>
      rw[r] at E;obtain⟨b,W,e',d,l,s⟩:=E
      have hi:i<T.heap.length:=by rw[<-q]; exact JX hb
      obtain⟨cs',C,I⟩:=YU H.heap hH M (Ext.refl _) F i id c W.toList hi (by rw[dH]; exact hb) r s;rw[C];exact⟨b,W,e',(rz hb).trans d,l,I⟩
     |row t g fz xs =>
      rw[r] at f E
      cases fz with
      |true =>
       rw[show lkB _ i=_ from f];show CR w _ (.slice t) xs [_];rw[rz hb];exact CR.mono F.sub E
      |false =>
       rw[show lkB _ i=_ from f];obtain⟨base,cap,d,l,s⟩:=E;refine⟨base,cap,(rz hb).trans d,l,?_⟩;rcases s with s|⟨b,off,c,e',C,I,O,q7⟩
       ·exact .inl s
       ·refine .inr ⟨b,off,c,e',C,I,O,fun j x R=>?_⟩;obtain⟨us,q8,q9⟩:=q7 j x R;exact⟨us,CR.mono F.sub q8,q9⟩
     |map k u es =>
      rw[r] at f E;rw[show lkB _ i=_ from f];obtain⟨b,B,L,d,l,s,C⟩:=E;refine⟨b,B,L,(rz hb).trans d,l,s,fun j x R=>?_⟩;obtain⟨m,us,I,O,q7,q8⟩:=C j x R;exact⟨m,us,I,CR.mono F.sub O,CR.mono F.sub q7,q8⟩
     |acc t xs =>
      rw[r] at f E;rw[show lkB _ i=_ from f];obtain⟨us,d,l,s,C⟩:=E;refine⟨us,(rz hb).trans d,by rw[rz hb]; exact l,s,?_⟩;rw[rz hb];exact Ghost.st _ _ _ _ _ _ C ⟨rfl,rfl,rfl,cX _,fun b _ hn R=>hn (F.sub b R),fun b o ho _ _=>ho,fun b o ho _ _=>ho⟩
  ·have V:∀i,(lkB (Il T.heap (rest M N)).1 i).live=true->ř (νb M.bd ν i) b->∃id,mE M.bd i=some (.at_ id)/\(lkB S.h id).live=true/\ř (ν id) b:=fun i hi A=>by
    cases hb:mE M.bd i with
    |none=>rw[F.out i (by simp[hb]) (by simp[hb])] at hi; cases hi
    |some x =>
     cases x with
     |open_=>rw[F.out i (by simp[hb]) (by simp[hb])] at hi; cases hi
     |new=>simp only[νb,hb] at A; cases A
     |at_ id =>
      refine⟨id,rfl,?_,by simpa[νb,hb] using A⟩;have f:=F.at_ i id hb
      cases U:lkB S.h id with
      |dead=>rw[U] at f; rw[show lkB _ i=_ from f] at hi; cases hi
      |cells=>rfl
      |map=>rfl
      |acc=>rfl
      |row t g fz xs =>
       cases fz with
       |false=>rfl
       |true=>rw[U] at f; rw[show lkB _ i=_ from f] at hi; cases hi
   obtain⟨id,d,l,s⟩:=V i hi A;obtain⟨y,C,I,O⟩:=V j hj hbj;have:=H.heap.inj id y b l I s O;subst this;exact F.inj i j id d C
 have G:∀i,i<pin->mE M.bd i=some (.at_ i):=fun i hi=>(eL.trans Y).bd i i (ae6 hi c1);refine⟨νb M.bd ν,⟨H.defers,?_,fun i=>?_,hHR⟩,⟨rfl,rfl,rfl,cX _,fun b _ hb=>⟨rfl,fun hb'=>hb (F.subL b hb')⟩,fun i hi=>?_⟩,by rw[z]; exact c1,fun i hi K=>?_⟩
 ·have:=H.len;simp only[cZ,fH,K6];omega
 ·simp only[Ux];exact YT H.heap hL M Y F (fun k=>a.tmps.getD k undef) (fun k=>H.tmps k) i
 ·have hb:=G i hi;have f:=F.at_ i i hb
  cases r:lkB S.h i with
  |dead=>trivial
  |cells c=>rw[r] at f; exact⟨f,rz hb⟩
  |row t g fz xs =>
   rw[r] at f
   cases fz with
   |true=>exact⟨g,true,xs,f,cX _,fun _=>⟨rz hb,rfl⟩⟩
   |false =>
    have hg:=UG c4 i hi t g xs r;exact⟨0,false,xs,f,by omega,fun _=>⟨rz hb,rfl⟩⟩
  |map k u es=>rw[r] at f; exact⟨⟨es,f⟩,rz hb⟩
  |acc t xs=>rw[r] at f; exact⟨xs,f⟩
 ·have f:=F.at_ i i (G i hi);rw[K] at f;exact f
end
end Go.Am
end

noncomputable section
namespace Go.Am
variable [Ghost]
section
variable {ρ:Type} {ν ν':Nat->Value} {h h':CK Blk} {w w':World} {P:Program}
def mz (w:World) (G:Nat->Prop) (t:Ty) (x:Val t) (v:Value):Prop:=∃us,CR w G t x us/\v=zw t us
def AT (w:World) (G:Nat->Prop):(l:CK Ty)->(t:Ty)->Val (tys t l)->CK Value->Prop
 |[],t,x,vs=>∃v,vs=[v]/\mz w G t x v
 |u::l,t,x,vs=>∃v b,vs=v::b/\mz w G t (x:Val t×Val (tys u l)).1 v/\AT w G l u (x:Val t×Val (tys u l)).2 b
def AL (w:World) (G:Nat->Prop):(l:CK Ty)->Val (tyL l)->CK Value->Prop
 |[],_,vs=>vs=[]
 |t::l,x,vs=>AT w G l t x vs
def RR (w:World) (G:Nat->Prop):(l:CK Ty)->Val (tyL l)->Value->Prop
 |[],_,u=>u=.tuple #[]
 |[t],x,u=>mz w G t x u
 |t::u'::l,x,u=>∃vs,u=.tuple vs/\AT w G (u'::l) t x vs.toList
def ja (P:Program) (f:Nat) (p:ú):Prop :=
 ∀(G:Nat->Prop) (x:Val (tyL p.ts)) (y:Val (tyL p.rs)),p.F x=some y->∀(w:World) (vals:CK Value),(∀b,G b->b<w.heap.size)->AL w G p.ts x vals ->
  (∃fn c,P.funcs[f]?=some fn/\fn.body=some c) /\
  CallsIn Fence.wide 0 P f vals.toArray w fun e w'=>∃u,e=.returned u/\RR w' G p.rs y u/\(∀b,b<w.heap.size->w'.heap[b]?=w.heap[b]?)/\w.heap.size<=w'.heap.size/\w'.os=w.os/\w'.tape=w.tape/\w'.output=w.output
def Xf {a:AV} {vs:CK AV} (e:š a=some vs):nt a=vs:=by
 cases a<;>simp only[š,Option.some.injEq,reduceCtorEq] at e<;>exact e
def BQ {G:Nat->Prop} {t:Ty} {x:Val t} {a:AV} {v:Value} {vs:CK AV} (d:(UC a==t.isAgg)=true) (i:š a=some vs) (j:VR ν h w a v)
 (r:∀c∈nt a,∀u,VR1 ν h w c u->VRs w G (ă h c) u) (e:Ü t (vs.map (ă h))=some x):mz w G t x v:=by
 have f:=j.cells i;have h2:ĕ (VRs w G) (vs.map (ă h)) v.cells.toList:=ĕ.map_left (aux vs _ f fun c o u k=>r c (by rw[Xf i]; exact o) u k.1);refine⟨_,Ĥ e h2,?_⟩
 cases ha:a.isAgg with
 |true =>
  cases a<;>try cases ha
  obtain⟨us,rfl,_⟩:=j
  have:t.isAgg=true:=by simpa[UC] using d
  simp[zw,this,Value.cells]
 |false =>
  have s:UC a=false:=by cases a<;>first|rfl|cases ha
  have m:t.isAgg=false:=by rw[s] at d; simpa using d
  have l:a.isTup=false:=by cases a<;>first|rfl|cases i
  have y:=(j.one ha l).oneCell i;simp[zw,m,QO y]
where
 aux {w:World} {G:Nat->Prop} {ν:Nat->Value} {h:CK Blk} (vs:CK AV) (us:CK Value) (f:ĕ (VRc ν h w) vs us) (p:∀c∈vs,∀u,VRc ν h w c u->VRs w G (ă h c) u):ĕ (fun c b=>VRs w G (ă h c) b) vs us:=by
  induction vs generalizing us with
  |nil=>cases us with
   |nil=>trivial
   |cons=>exact f.elim
  |cons c vs q=>cases us with
   |nil=>exact f.elim
   |cons u us=>exact⟨p c (by simp) u f.1,q us f.2 fun c o u k=>p c (by simp[o]) u k⟩
def Xu (H:HR ν h w) {G:Nat->Prop} {t:Ty} {x:Val t} {a:AV} {v:Value} (l:VR ν h w a v)
 (A:∀c∈nt a,∀u,VR1 ν h w c u->VRs w G (ă h c) u) (hb:∀id cs,a=.box id 0->lkB h id=.cells cs->(∀b,ř (ν id) b->¬G b)/\∀c∈cs,∀u,VR1 ν h w c u->VRs w G (ă h c) u) (e:aml h t a=some x):mz w G t x v:=by
 cases z:(match t with|.ptr _=>true|_=>false) with
 |false =>
  have f:(match UC a==t.isAgg with|true=>(match š (acY h a) with|some cs=>Ü t cs|none=>none)|false=>none)=some x:=by
   cases t<;>first|exact e|cases z
  split at f<;>try (cases f; done)
  rename_i q
  split at f<;>try (cases f; done)
  rename_i cs d;obtain⟨vs,k,rfl⟩:=Jg d;exact BQ q k l A f
 |true =>
  cases t<;>try cases z
  rename_i u;simp only[aml] at e
  split at e<;>try (cases e; done)
  ·rename_i id
   split at e<;>try (cases e; done)
   rename_i cs B;obtain⟨K,b,k,h2,s⟩:=l.one rfl rfl;have C:=H.blk id;rw[B] at C;obtain⟨N,c,f,j,i,r⟩:=C;rw[h2] at j; cases j;obtain⟨J,d⟩:=hb id cs rfl B;have p:CR w G u x c.toList:=Ĥ e (ĕ.map_left (BQ.aux cs _ r fun c I u E=>d c I u E.1));refine⟨[v],⟨b,0,c.toList,by rw[s],J b (by rw[h2]; rfl),ħ i,p,CellsAt.of_cells i⟩,rfl⟩
  ·rename_i L y
   split at e<;>try (cases e; done)
   rename_i m _;subst m;cases e;have k:=A _ (by simp[nt]) v (l.one rfl rfl);obtain⟨b,o,us,h2,s,j,i,r⟩:=k;exact⟨[v],⟨b,o,us,by rw[h2]; rfl,s,j,i,r⟩,rfl⟩
def Q8 (H:HR ν h w) {G:Nat->Prop}:∀(l:CK Ty) (t:Ty) (x:Val (tys t l)) (as:CK AV) (vs:CK Value),ĕ (VR ν h w) as vs ->
 (∀a∈as,∀c∈nt a,∀u,VR1 ν h w c u->VRs w G (ă h c) u)->(∀a∈as,∀id cs,a=.box id 0->lkB h id=.cells cs->(∀b,ř (ν id) b->¬G b)/\∀c∈cs,∀u,VR1 ν h w c u->VRs w G (ă h c) u)->Xt h l t as=some x->AT w G l t x vs
 |[],t,x,[],vs,_,_,_,e=>by cases e
 |[],t,x,[a],vs,d,f,hb,e=>by
  obtain⟨v,rfl,k⟩:=d.one;exact⟨v,rfl,Xu H k (f a (by simp)) (hb a (by simp)) e⟩
 |[],t,x,_::_::_,vs,_,_,_,e=>by cases e
 |u::l,t,x,[],vs,_,_,_,e=>by cases e
 |u::l,t,x,a::as,[],d,_,_,e=>d.elim
 |u::l,t,x,a::as,v::vs,d,f,hb,e=>by
  simp only[Xt] at e
  split at e<;>try (cases e; done)
  rename_i y j
  split at e<;>try (cases e; done)
  rename_i z i;cases e;exact⟨v,vs,rfl,Xu H d.1 (f a (by simp)) (hb a (by simp)) j,Q8 H l u z as vs d.2 (fun a ha=>f a (by simp[ha])) (fun a ha=>hb a (by simp[ha])) i⟩
def I6 (H:HR ν h w) {G:Nat->Prop} {l:CK Ty} {x:Val (tyL l)} {as:CK AV} {vs:CK Value} (d:ĕ (VR ν h w) as vs)
 (f:∀a∈as,∀c∈nt a,∀u,VR1 ν h w c u->VRs w G (ă h c) u) (hb:∀a∈as,∀id cs,a=.box id 0->lkB h id=.cells cs->(∀b,ř (ν id) b->¬G b)/\∀c∈cs,∀u,VR1 ν h w c u->VRs w G (ă h c) u) (e:FO h l as=some x):AL w G l x vs:=by
 cases l with
 |nil=>cases as with
  |nil=>exact d.nil_left
  |cons=>cases e
 |cons t l=>exact Q8 H l t x as vs d f hb e
def mz.mono {G G':Nat->Prop} (d:∀b,G' b->G b) {t:Ty} {x:Val t} {v:Value} (c:mz w G t x v):mz w G' t x v:=by
 obtain⟨us,e,h2⟩:=c;exact⟨us,CR.mono d e,h2⟩
def J4 {av f:Nat->Prop}:∀{t:Ty} {x:Val t} {us:CK Value},(flat t x).all Di=true->CR w av t x us->CR w f t x us
 |.unit,_,_,_,d=>d
 |.bool,_,_,_,d=>d
 |.int _,_,_,_,d=>d
 |.str,_,_,_,d=>d
 |.slice _,_,_,c,_=>by simp[flat,Di] at c
 |.map _ _,_,_,c,_=>by simp[flat,Di] at c
 |.ptr _,_,_,c,_=>by simp[flat,Di] at c
 |.pair a b,x,us,c,d=>by
  simp only[flat,List.all_append,cW] at c;obtain⟨u1,u2,e,i,h2⟩:=d;exact⟨u1,u2,e,J4 c.1 i,J4 c.2 h2⟩
def aja {t:Ty} {x:Val t} (b:plain (enc t x)=true):(flat t x).all Di=true:=by
 cases t<;>first|exact b|(simp only[enc,plain,Di] at b; simp[flat,Di])|(simp[enc,plain,Di] at b)
def mz.plain {G G':Nat->Prop} {t:Ty} {x:Val t} {v:Value} (c:plain (enc t x)=true) (b:mz w G t x v):mz w G' t x v:=by
 obtain⟨us,d,h2⟩:=b;exact⟨us,J4 (aja c) d,h2⟩
def AT.plain {G G':Nat->Prop}:∀{l:CK Ty} {t:Ty} {x:Val (tys t l)} {vs:CK Value},(ajb l t x).all Go.Am.plain=true->AT w G l t x vs->AT w G' l t x vs
 |[],t,x,vs,b,⟨v,c,h2⟩=>⟨v,c,h2.plain (by simpa[ajb] using b)⟩
 |u::l,t,x,vs,b,⟨v,vs',c,h2,d⟩=>by
  simp only[ajb,fQ,cW] at b;exact⟨v,vs',c,h2.plain b.1,AT.plain b.2 d⟩
def Yf {v:AV} (b:v.isTup=false):Ny v=Go.Am.plain v:=by cases v<;>first|rfl|cases b
def Kd {t:Ty} {x:Val t}:(enc t x).isTup=false:=by cases t<;>rfl
def RR.plain {G G':Nat->Prop}:∀{l:CK Ty} {x:Val (tyL l)} {u:Value},Ny (aa8 l x)=true->RR w G l x u->RR w G' l x u
 |[],_,_,_,h=>h
 |[t],x,u,b,h=>mz.plain ((Yf (Kd (t:=t) (x:=x))).symm.trans b) h
 |t::u'::l,x,u,b,⟨vs,c,h2⟩=>⟨vs,c,h2.plain b⟩
def mz.VR {t:Ty} {x:Val t} {v:Value} (b:mz w (Av ν h) t x v):VR ν h w (enc t x) v:=by
 obtain⟨us,c,rfl⟩:=b;exact Ld c
def AT.VR:∀{l:CK Ty} {t:Ty} {x:Val (tys t l)} {vs:CK Value},AT w (Av ν h) l t x vs->ĕ (VR ν h w) (ajb l t x) vs
 |[],t,x,_,⟨v,rfl,h2⟩=>⟨h2.VR,trivial⟩
 |u::l,t,x,_,⟨v,vs',rfl,h2,b⟩=>⟨h2.VR,AT.VR b⟩
def QE:∀{l:CK Ty} {t:Ty} {x:Val (tys t l)},∀a∈ajb l t x,a.isTup=false
 |[],t,x,a,b=>by simp only[ajb,dh] at b; rw[b]; exact Kd
 |u::l,t,x,a,b=>by
  simp only[ajb,df] at b;rcases b with rfl|b
  ·exact Kd
  ·exact QE a b
def ĕ.VR2:∀{as:CK AV} {vs:CK Value},ĕ (VR ν h w) as vs->(∀a∈as,a.isTup=false)->ĕ (VR2 ν h w) as vs
 |[],[],_,_=>trivial
 |a::as,v::vs,b,c=>⟨by rw[<-zq (c a (by simp))]; exact b.1,ĕ.VR2 b.2 fun a ha=>c a (by simp[ha])⟩
 |[],_::_,b,_=>b.elim
 |_::_,[],b,_=>b.elim
def RR.VR:∀{l:CK Ty} {x:Val (tyL l)} {u:Value},RR w (Av ν h) l x u->VR ν h w (aa8 l x) u
 |[],_,_,h=>by cases h; exact⟨#[],rfl,trivial⟩
 |[t],x,u,h=>mz.VR h
 |t::u'::l,x,u,⟨vs,b,h2⟩=>⟨vs,b,ĕ.VR2 h2.VR QE⟩
def I8 (P:Program) (g:Nat) (ν:Nat->Value) (h:CK Blk) (w:World) (vals:CK Value) (K:AV->CK Blk->BY ρ) (r:ρ):Prop :=
 (∃fn c,P.funcs[g]?=some fn/\fn.body=some c) /\
 CallsIn Fence.wide 0 P g vals.toArray w fun e w'=>∃ν' h' v u,e=.returned u/\VR ν' h' w' v u/\HR ν' h' w'/\Ev h.length ν h w ν' h' w'/\h.length<=h'.length/\(∀j,j<h.length->lkB h j=.dead->lkB h' j=.dead)/\K v h'=some r
def aeg {c:AV} {u:Value}:∀{as:CK AV} {h:CK Blk},HR ν h w->c∈as->NT c=true->VR1 ν h w c u->VRs w (Av ν (C8 h as)) (ă h c) u
 |[],_,_,b,_,_=>by cases b
 |a::as,h,H,b,e,d=>by
  obtain⟨i,f,j⟩:=Qj H a;rcases df.1 b with rfl|b
  ·exact VRs.mono ((FH as f).2.2) (Qi H d e)
  ·have:=aeg (as:=as) f b e (d.ev i)
   rwa [Jh] at this
def aff {f:Nat} {p:ú} (V:ja P f p) {b:Bool} {d:CK AV} {K:AV->CK Blk->BY ρ} {r:ρ} (e:Vq b p h d K=some r) (H:HR ν h w) {vals:CK Value} (E:ĕ (VR ν h w) d vals):I8 P f ν h w vals K r:=by
 unfold Vq at e
 split at e<;>try (cases e; done)
 rename_i x C;simp only[Å] at e
 split at e<;>try (cases e; done)
 rename_i y T
 -- the call, with what may not be touched
 have call:∀(G:Nat->Prop),(∀b,G b->b<w.heap.size)->AL w G p.ts x vals->∀(h':CK Blk),HR ν h' w->Ev h.length ν h w ν h' w->h.length<=h'.length->(∀j,j<h.length->lkB h j=.dead->lkB h' j=.dead) ->
  (∀w' u,RR w' G p.rs y u->RR w' (Av ν h') p.rs y u)->K (aa8 p.rs y) h'=some r->I8 P f ν h w vals K r:=by
  intro G Z N h' B ev W q I Y;obtain⟨h1,h2⟩:=V G x y T w vals Z N;refine⟨h1,h2.mono fun e w' U=>?_⟩;obtain⟨u,rfl,g1,g2,g3,g4,g5,g6⟩:=U;obtain⟨O,R⟩:=B.grow g2 g3 g4 g5 g6 h.length;exact⟨ν,h',_,u,rfl,(I w' u g1).VR,R,ev.trans O (cX _),W,q,Y⟩
 split at e
 ·rename_i J;exact call (fun _=>False) (fun _ L=>L.elim) (I6 H E (fun a _ c _ u m=>F0 H m) (fun _ _ _ _ _ _=>⟨fun _ _ L=>L,fun c _ u m=>F0 H m⟩) C) h H (Ev.refl _ _ _ _) (cX _) (fun _ _ hd=>hd) (fun w' u v=>v.plain J) e
 ·split at e
  ·rename_i z
   have i:∀a∈d,Ra a=false:=fun a ha=>by have:=dC.1 z a ha; simpa using this
   refine call (Av ν h) (fun b hb=>H.ltA hb) (I6 H E (fun a ha c k u m=>?_) (fun a ha id cs o _=>?_) C) h H (Ev.refl _ _ _ _) (cX _) (fun _ _ hd=>hd) (fun w' u v=>v) e
   ·have s:FQ c=false:=by
     have:=i a ha
     cases a<;>first
      |(simp only[nt,dh] at k; subst k; exact this)
      |(simp only[nt] at k; simp only[Ra,dI] at this; simpa using this c k)
    have:ă h c=c:=by cases c<;>first|rfl|cases s
    rw[this]; exact m.data
   ·subst o; cases i _ ha
  ·split at e<;>try (cases e; done)
   rename_i A;simp only[fL,fk] at A;have l:∀a∈d,ahW a=true:=dC.1 A.2;obtain⟨ev,B,S⟩:=FH (d.flatMap nt) H;refine call (Av ν (C8 h (d.flatMap nt))) (fun b hb=>B.ltA hb) (I6 H E (fun a ha c k u m=>?_) (fun a ha id cs o _=>?_) C) _ B ev (by rw[κ]; exact cX _) (fun _ _ hd=>Qg _ hd) (fun w' u v=>v) e
   ·refine aeg H (dA.2 ⟨a,ha,k⟩) ?_ m;have:=l a ha
    have s:ahV c=true:=by
     cases a<;>first
      |(simp only[nt,dh] at k; subst k; exact this)
      |(simp only[nt] at k; simp only[ahW,dC] at this; exact this c k)
    cases c<;>first|rfl|cases s
   ·subst o; cases l _ ha
end
end Go.Am
end

noncomputable section
namespace Go.Am
section
variable {w w':World} {X X':Nat->Prop}
structure amz (w:World) (X:Nat->Prop) (w':World) (X':Nat->Prop):Prop where
 size:w.heap.size<=w'.heap.size
 av:∀b,b<w.heap.size->¬X b->¬X' b
 dat:∀(b:Nat) (o:Obj),w.heap[b]?=some o->TI o=true->¬X b->w'.heap[b]?=some o
def alX {w:World} {a:Addr} {v:Value} (h:w.cell? a=some v):∃o,w.heap[a.block]?=some o/\TI o=true/\∀w':World,w'.heap[a.block]?=some o->w'.cell? a=some v:=by
 unfold World.cell? at h
 split at h<;>try (cases h; done)
 rename_i c e r hb;exact⟨_,hb,rfl,fun w' h'=>by unfold World.cell?; rw[h']; exact h⟩
def CellsAt.kx (K:amz w X w' X') {b off:Nat} {vs:CK Value} (hb:¬X b) (h:CellsAt w b off vs):CellsAt w' b off vs:=fun j v c=>by
 obtain⟨o,e,h2,d⟩:=alX (h j v c);exact d w' (K.dat b o e h2 hb)
def CR.kx (K:amz w X w' X'):∀{t:Ty} {x:Val t} {vs:CK Value},CR w X t x vs->CR w' X' t x vs
 |.unit,_,_,h=>h
 |.bool,_,_,h=>h
 |.int _,_,_,h=>h
 |.str,_,_,h=>h
 |.slice t,xs,vs,h=>by
  obtain⟨base,cap,e,s,h⟩:=h;refine⟨base,cap,e,s,?_⟩;rcases h with h|⟨b,off,hb,c,d,h⟩
  ·exact .inl h
  ·refine .inr ⟨b,off,hb,K.av b d c,dr d K.size,fun i x j=>?_⟩;obtain⟨us,f,h2⟩:=h i x j;exact⟨us,CR.kx K f,h2.kx K c⟩
 |.map k v,es,vs,h=>by
  obtain⟨r,e,h⟩:=h;refine⟨r,e,?_⟩;rcases h with h|⟨b,entries,clock,q,c,l,p,h⟩
  ·exact .inl h
  ·refine .inr ⟨b,entries,clock,q,K.av b (ħ l) c,K.dat b _ l rfl c,p,fun i x j=>?_⟩;obtain⟨m,us,f,h2,y,u⟩:=h i x j;exact⟨m,us,f,CR.kx K h2,CR.kx K y,u⟩
 |.ptr t,x,vs,h=>by
  obtain⟨b,off,us,e,c,d,f,h2⟩:=h;exact⟨b,off,us,e,K.av b d c,dr d K.size,CR.kx K f,h2.kx K c⟩
 |.pair a b,x,vs,h=>by
  obtain⟨us,o,e,f,h2⟩:=h;exact⟨us,o,e,CR.kx K f,CR.kx K h2⟩
end
section
variable {g:Ghost} {G':Nat->Prop} {D:CK Deferred} {Q:BY Nat} {M:Nat} {ν:Nat->Value} {h:CK Blk} {w w':World}
structure nF (g:Ghost) (ν:Nat->Value) (h:CK Blk) (w:World) (G':Nat->Prop) (w':World):Prop where
 os:w'.os=w.os
 tape:w'.tape=w.tape
 output:w'.output=w.output
 size:w.heap.size<=w'.heap.size
 av:∀b,b<w.heap.size->¬@Av g ν h b->¬G' b
 dat:∀(b:Nat) (o:Obj),w.heap[b]?=some o->TI o=true->(@Av g ν h b->FT ν h b)->w'.heap[b]?=some o
 nd:∀(b:Nat) (o:Obj),w.heap[b]?=some o->TI o=false->b<g.B->w'.heap[b]?=some o
def nF.kx (K:nF g ν h w G' w'):amz w (@Av g ν h) w' (@Av (g.re G' D Q M) ν h) :=
 ⟨K.size,fun b hb c d=>d.elim (fun f=>c (.inl f)) (K.av b hb c),fun b o hb e c=>K.dat b o hb e fun d=>absurd d c⟩
def VR0.step (K:nF g ν h w G' w') {a:AV} {v:Value} (c:@VR0 g ν h w a v):@VR0 (g.re G' D Q M) ν h w' a v:=by
 cases a with
 |slc t xs=>exact CR.kx (nF.kx (D:=D) (Q:=Q) (M:=M) K) (t:=.slice t) c
 |mp k t es=>exact CR.kx (nF.kx (D:=D) (Q:=Q) (M:=M) K) (t:=.map k t) c
 |eptr t x off =>
  obtain⟨b,o,us,j,h2,e,i,f⟩:=c;have d:=nF.kx (D:=D) (Q:=Q) (M:=M) K;exact⟨b,o,us,j,d.av b e h2,dr e K.size,CR.kx d i,f.kx d h2⟩
 |_=>exact c
def VR1.step (K:nF g ν h w G' w') {a:AV} {v:Value} (b:@VR1 g ν h w a v):@VR1 (g.re G' D Q M) ν h w' a v:=by
 cases c:a.isFn with
 |true =>
  cases a<;>try cases c
  obtain⟨fs,cs,e,h2,d⟩:=b;exact⟨fs,cs,e,h2.mono fun _ _=>VR0.step K,d.mono fun _ _=>VR0.step K⟩
 |false =>
  rw[@zd (g.re G' D Q M) _ _ _ _ _ c];rw[@zd g _ _ _ _ _ c] at b;exact VR0.step K b
def VRc.step (K:nF g ν h w G' w') {a:AV} {v:Value} (b:@VRc g ν h w a v):@VRc (g.re G' D Q M) ν h w' a v:=⟨VR1.step K b.1,b.2⟩
def VR2.step (K:nF g ν h w G' w') {a:AV} {v:Value} (b:@VR2 g ν h w a v):@VR2 (g.re G' D Q M) ν h w' a v:=by
 cases c:a.isAgg with
 |true =>
  cases a<;>try cases c
  obtain⟨vs,d,h2⟩:=b;exact⟨vs,d,h2.mono fun _ _=>VRc.step K⟩
 |false =>
  rw[@BU (g.re G' D Q M) _ _ _ _ _ c];rw[@BU g _ _ _ _ _ c] at b;exact VR1.step K b
def VR.step (K:nF g ν h w G' w') {a:AV} {v:Value} (b:@VR g ν h w a v):@VR (g.re G' D Q M) ν h w' a v:=by
 cases c:a.isTup with
 |true =>
  cases a<;>try cases c
  obtain⟨vs,d,h2⟩:=b;exact⟨vs,d,h2.mono fun _ _=>VR2.step K⟩
 |false =>
  rw[@zq (g.re G' D Q M) _ _ _ _ _ c];rw[@zq g _ _ _ _ _ c] at b;exact VR2.step K b
def HR.step (K:nF g ν h w G' w') (G:∀b,G' b->b<w'.heap.size) (E:∀b,FT ν h b->¬G' b) (H:@HR g ν h w):@HR (g.re G' D Q M) ν h w':=by
 have B:amz w (@Av g ν h) w' (@Av (g.re G' D Q M) ν h):=nF.kx K;have live:∀(id b:Nat) (o:Obj),(lkB h id).live=true->ř (ν id) b->w.heap[b]?=some o->TI o=true->w'.heap[b]?=some o:=fun id b o l C hb hd=>K.dat b o hb hd fun _=>⟨id,l,C⟩;refine @HR.mk (g.re G' D Q M) ν h w' (fun id=>?_) (@HR.inj g _ _ _ H) G (fun id b l hb=>E b ⟨id,l,hb⟩);have p:=@HR.blk g _ _ _ H id;have d:=live id
 cases l:lkB h id with
 |dead=>trivial
 |cells cs =>
  rw[l] at p d;obtain⟨b,c,e,j,h2,q⟩:=p;exact⟨b,c,e,j,d b _ rfl (by rw[j]; rfl) h2 rfl,q.mono fun _ _=>VRc.step K⟩
 |row t g' fz xs =>
  rw[l] at p d
  cases fz with
  |true=>exact CR.kx B (t:=.slice t) p
  |false =>
   obtain⟨base,cap,j,h2,q⟩:=p;refine⟨base,cap,j,h2,?_⟩;rcases q with q|⟨b,off,c,e,u,I,R,O⟩
   ·exact .inl q
   ·have A:=d b _ rfl (by rw[j,u]; rfl) I rfl;refine .inr ⟨b,off,c,e,u,A,R,fun i x z=>?_⟩;obtain⟨us,y,s⟩:=O i x z;exact⟨us,CR.kx B y,s.keep (A.trans I.symm)⟩
 |map k v es =>
  rw[l] at p d;obtain⟨b,f,r,j,h2,q,u⟩:=p;refine⟨b,f,r,j,d b _ rfl (by rw[j]; rfl) h2 rfl,q,fun i x z=>?_⟩;obtain⟨m,us,y,s,L,J⟩:=u i x z;exact⟨m,us,y,CR.kx B s,CR.kx B L,J⟩
 |acc t xs =>
  rw[l] at p d;obtain⟨us,j,h2,q,u⟩:=p;refine⟨us,j,fun b hb=>?_,q,?_⟩
  ·obtain⟨o,y,s⟩:=h2 b hb;exact⟨o,d b o rfl hb y s,s⟩
  ·refine g.st _ _ _ _ _ _ u ⟨K.os,K.tape,K.output,K.size,B.av,fun b o hb C z=>K.dat b o hb C fun N=>⟨id,by rw[l]; rfl,z N⟩,K.nd⟩
def HR.re (H:@HR g ν h w):@HR (g.re g.G D Q M) ν h w:=@HR.mk (g.re g.G D Q M) ν h w (@HR.blk g ν h w H) (@HR.inj g ν h w H) (@HR.ghlt g ν h w H) (@HR.ghne g ν h w H)
def HR.er (H:@HR (g.re g.G D Q M) ν h w):@HR g ν h w:=@HR.mk g ν h w (@HR.blk (g.re g.G D Q M) ν h w H) (@HR.inj (g.re g.G D Q M) ν h w H) (@HR.ghlt (g.re g.G D Q M) ν h w H) (@HR.ghne (g.re g.G D Q M) ν h w H)
def nF.less {G':Nat->Prop} (e:∀b,G' b->g.G b):nF g ν h w G' w:=⟨rfl,rfl,rfl,cX _,fun b _ c d=>c (.inr (e b d)),fun b o hb _ _=>hb,fun b o hb _ _=>hb⟩
def nF.nds (c:w'.os=w.os) (f:w'.tape=w.tape) (j:w'.output=w.output) (i:w.heap.size<=w'.heap.size) (e:∀(b:Nat) (o:Obj),w.heap[b]?=some o->TI o=true\/b<g.B->w'.heap[b]?=some o):nF g ν h w g.G w' :=
 ⟨c,f,j,i,fun b _ k l=>k (.inr l),fun b o hb hd _=>e b o hb (.inl hd),fun b o hb _ d=>e b o hb (.inr d)⟩
end
end Go.Am
end

noncomputable section
namespace Go.Am
variable [Ghost]
section
variable {ρ:Type} {ν ν':Nat->Value} {h h':CK Blk} {w w':World} {P:Program}
def TK {v b:AV} (e:alf v=some b):b=v/\v.isTup=false:=by
 cases v<;>simp only[alf,Option.some.injEq,reduceCtorEq] at e<;>exact⟨e.symm,rfl⟩
def afc {S:St} {a:Act} (H:Sim ν S a w) {rv:ResultVar} {v:AV} (e:abk P S.h S.t rv=some v) :
 ∃u,(match rv with|.tmp t=>(pure (a.tmps.getD t undef):Sem Value)|.cell x t=>do loadVar t (<-asAddr (a.tmps.getD x undef))).run P w=.ok u w/\VR2 ν S.h w v u:=by
 cases rv with
 |tmp i =>
  obtain⟨rfl,d⟩:=TK e;have:=H.tmps i;rw[zq d] at this;exact⟨_,rfl,this⟩
 |cell x t =>
  simp only[abk] at e
  split at e<;>try (cases e; done)
  rename_i j f;obtain⟨rfl,d⟩:=TK e;obtain⟨u,b,h2⟩:=aiB H.heap f (H.tmps x);rw[zq d] at h2;refine⟨u,?_,h2⟩;simp only[Instr.loadAt] at b
  cases c:a.tmps.getD x undef with
  |pointer p =>
   rw[c] at b
   cases p with
   |none=>simp[Instr.sureAddr] at b
   |some k =>
    show(do loadVar t (<-asAddr (a.tmps.getD x undef)):Sem Value).run P w=_;rw[c];simpa[Instr.sureAddr,asAddr] using b
  |_=>rw[c] at b; simp[Instr.sureAddr] at b
def Tg {S:St} {a:Act} (H:Sim ν S a w):∀{rs:CK ResultVar} {vs:CK AV},Nr P S.h S.t rs=some vs ->
 ∃us:CK Value,(rs.mapM (m:=Sem) fun|.tmp t=>pure (a.tmps.getD t undef)|.cell x t=>do loadVar t (<-asAddr (a.tmps.getD x undef))).run P w=.ok us w/\ĕ (VR2 ν S.h w) vs us
 |[],vs,e=>by cases e; exact⟨[],rfl,trivial⟩
 |rv::rs,vs,e=>by
  simp only[Nr] at e
  split at e<;>try (cases e; done)
  rename_i v d
  split at e<;>try (cases e; done)
  rename_i c b;cases e;obtain⟨u,j,h2⟩:=afc H d;obtain⟨us,i,f⟩:=Tg H b;refine⟨u::us,?_,h2,f⟩;simp only[List.mapM_cons,Sem.run_bind,Sem.run_pure];rw[j];simp only[Result.andThen_ok];rw[i];rfl
def VR2.up {v:AV} {u:Value} (b:VR2 ν h w v u):VR ν h w v u:=by
 cases c:v.isTup with
 |true =>
  cases v<;>try cases c
  exact b.elim
 |false=>rw[zq c]; exact b
def Tf {S:St} {a:Act} {fn:Func} {v:AV} (H:Sim ν S a w) (e:vz P fn S=some v):∃u,(results fn a.tmps).run P w=.ok u w/\VR ν S.h w v u:=by
 unfold vz at e
 cases c:Nr P S.h S.t fn.results.toList with
 |none=>rw[c] at e; cases e
 |some vs =>
  obtain⟨us,d,h2⟩:=Tg H c
  have b:(results fn a.tmps).run P w=.ok (if h:us.toArray.size=1 then us.toArray[0] else .tuple us.toArray) w:=by
   unfold results;rw[Sem.run_bind,Array.mapM_eq_mapM_toList,Sem.run_map]
   erw [d]
   rfl
  rw[c] at e
  rcases vs with _|⟨x,_|⟨y,l⟩⟩<;>rcases us with _|⟨u,_|⟨u',m⟩⟩
  ·cases e; exact⟨_,b,⟨#[],by simp,trivial⟩⟩
  ·exact h2.elim
  ·exact h2.elim
  ·exact h2.elim
  ·cases e; exact⟨_,b,h2.1.up⟩
  ·exact h2.2.elim
  ·exact h2.elim
  ·exact h2.2.elim
  ·cases e; exact⟨_,b,⟨(u::u'::m).toArray,by simp,h2⟩⟩
def ĕ.lk {R:AV->Value->Prop} (b:∀u,R .any u):∀{l:CK AV} {m:CK Value} (i:Nat),ĕ R l m->R (Am.lk l i) (m.getD i undef)
 |[],[],i,_=>b _
 |_::_,_::_,0,h=>h.1
 |_::_,_::_,i+1,h=>by simpa[Am.lk] using ĕ.lk b i h.2
 |[],_::_,_,h=>h.elim
 |_::_,[],_,h=>h.elim
def aep (h:Ghost.Q=none):fen=Fence.wide:=by
 unfold fen;rw[h];rfl
omit [Ghost] in
def uO {F:Fence} {n:Nat} {fn:Func} {tmps:Array Value} {R:Ending->World->Prop}:∀(ms:CK Nat) (w:World),ms.Nodup->(∀k∈ms,w.heap[k]?=some (.deferred (some []))) ->
 (∀w':World,w'.heap.size=w.heap.size->w'.os=w.os->w'.tape=w.tape->w'.output=w.output->(∀b,b∉ms->w'.heap[b]?=w.heap[b]?)->LeavesIn F n P fn tmps R [] .returning w')->LeavesInM F n P fn tmps R (ms.map mk1) .returning w
 |[],w,_,_,h=>h w rfl rfl rfl rfl fun _ _=>rfl
 |k::ms,w,p,c,h=>by
  refine⟨by simp,.inl ⟨k,_,rfl,run_takeDeferred (c k (.head _)),?_⟩⟩;obtain⟨r,h2⟩:=fq.1 p;refine uO ms _ h2 (fun j d=>?_) fun w' o m l i f=>h w' (by rw[o]; simp[World.putObj]) m l i fun b hb=>?_
  ·rw[World.putObj_heap_other (fun e=>r (by rw[<-e]; exact d))];exact c j (.tail _ d)
  ·rw[f b fun q=>hb (.tail _ q)];exact World.putObj_heap_other fun e=>hb (by rw[e]; exact .head _)
omit [Ghost] in
def yH {g:Ghost} {E:Env ρ} {call:CK Nat->Bool->Nat->CK AV->CK Blk->(AV->CK Blk->BY ρ)->BY ρ} {N:Nat} (hE:∀M,@nH (g.re g.G [] none M) ρ E N call) (hD:∀M,@xp (g.re g.G [] none M) ρ E N call) {path:CK Nat} (s:path.length+2=N) {f:Nat} {d:CK AV} {K:AV->CK Blk->BY ρ} {r:ρ}
 (hL:∀M fn c,E.P.funcs[f]?=some fn->fn.body=some c->∀x∈ß 0 c,@uZ (g.re g.G [] none M) ρ E path f x.1 x.2)
 (e:xc E call path f d h K=some r) {vals:CK Value} (H:@HR g ν h w) (hB:g.B<=w.heap.size) (p:ĕ (@VR g ν h w) d vals) :
 (∃fn c,E.P.funcs[f]?=some fn/\fn.body=some c) /\
 CallsIn Fence.wide 0 E.P f vals.toArray w fun e w'=>∃ν' h' v u,e=.returned u/\@VR g ν' h' w' v u/\@HR g ν' h' w'/\Ev h.length ν h w ν' h' w'/\h.length<=h'.length/\(∀j,j<h.length->lkB h j=.dead->lkB h' j=.dead)/\K v h'=some r:=by
 unfold xc at e
 split at e<;>try (cases e; done)
 rename_i fn y
 split at e<;>try (cases e; done)
 rename_i c Z;refine⟨⟨fn,c,y,Z⟩,?_⟩
 letI g':Ghost:=g.re g.G [] none w.heap.size
 refine callsIn_of_wp_marks y Z trivial ?_;have C:=p.length
 have hS:Sim ν {t:=d++List.replicate (fn.ntmps-d.length) .any,h:=h} {tmps:=vals.toArray++Array.replicate (fn.ntmps-vals.toArray.size) undef,defers:=[]} w:=by
  refine⟨⟨⟨[],rfl,gG,fun _ h=>(by cases h)⟩,fun l I=>(by cases I),hB,cX _⟩,by simp[C],fun i=>?_,HR.re H⟩;simp only[Ux];rcases dl i d.length with hi|hi
  ·have:=ĕ.lk (R:=@VR g ν h w) (fun _=>trivial) i p
   have U:i<vals.length:=by omega
   have h2:(vals.toArray++Array.replicate (fn.ntmps-vals.toArray.size) undef).getD i undef=vals.getD i undef:=by
    simp[eF,f8,U]
   rw[h2]; exact this
  ·rw[alk _ _ hi]; trivial
 have J:=wL (hE _) (hD _) s c 0 _ _ ν _ w (hL _ fn c y Z) e hS (cX _);rw[aep rfl] at J;refine wpIn_mono J fun x O w' ha=>?_;obtain⟨ν',L,A,h2,h3,h4,m⟩:=ha
 have fin:∀v,vz E.P fn L=some v->K v L.h=some r->LeavesInM Fence.wide 0 E.P fn O.tmps (fun e w'=>∃ν' h' v u,e=.returned u/\@VR g ν' h' w' v u/\@HR g ν' h' w'/\Ev h.length ν h w ν' h' w'/\h.length<=h'.length/\(∀j,j<h.length->lkB h j=.dead->lkB h' j=.dead)/\K v h'=some r) O.defers .returning w':=by
  intro v U Y;obtain⟨⟨ms,m1,m2,T⟩,_,m4,m5⟩:=A.defers;rw[show O.defers=ms.map mk1 from m1.trans (dt _)];refine uO ms w' m2 (fun k Y=>(T k Y).1) fun w2 q1 q2 q3 q4 q5=>?_
  have W:∀(b:Nat) (o:Obj),w'.heap[b]?=some o->TI o=true\/b<g'.B->w2.heap[b]?=some o:=fun b o hb hd=>by
   have z:b∉ms:=fun V=>by
    obtain⟨m6,S⟩:=T b V;rw[m6] at hb; cases hb;rcases hd with hd|hd
    ·cases hd
    ·have:g'.B<=w.heap.size:=hB;have S:w.heap.size<=b:=S;omega
   rw[q5 b z]; exact hb
  have KG:nF g' ν' L.h w' g'.G w2:=nF.nds q2 q3 q4 (by omega) W;have q:Sim ν' L {O with defers:=[]} w2:=⟨⟨⟨[],rfl,gG,fun _ h=>(by cases h)⟩,fun l I=>(by cases I),hB,by rw[q1]; exact m5⟩,A.len,fun i=>VR.step (g:=g') (D:=[]) (Q:=none) (M:=w.heap.size) KG (A.tmps i),HR.step (g:=g') (D:=[]) (Q:=none) (M:=w.heap.size) KG (fun b hb=>by have:=A.heap.ghlt b hb; omega) (fun b ⟨id,I,ho⟩=>A.heap.ghne id b I ho) A.heap⟩;obtain⟨u,r1,r2⟩:=Tf q U;refine⟨u,r1,ν',L.h,v,u,rfl,r2,HR.er q.heap,⟨q2.trans h2.os,q3.trans h2.tape,q4.trans h2.output,by rw[q1]; exact h2.size,fun b hb hn=>?_,h2.blk⟩,h3,h4,Y⟩;obtain⟨e1,e2⟩:=h2.keep b hb hn;refine⟨?_,e2⟩
  have z:b∉ms:=fun V=>by
   have S:w.heap.size<=b:=(T b V).2;omega
  rw[q5 b z]; exact e1
 cases x with
 |normal =>
  simp only at m
  split at m<;>try (cases m; done)
  exact fin _ ‹_› m
 |ret =>
  simp only at m
  split at m<;>try (cases m; done)
  exact fin _ ‹_› m
 |exit id=>cases m
 |goto l=>cases m
 |panic ch=>cases m
 |outgrown=>cases m
def agH (P:Program) (f:Nat) (X:CK Blk->CK AV->(AV->CK Blk->BY ρ)->BY ρ):Prop :=
 ∀(h:CK Blk) (b:CK AV) (K:AV->CK Blk->BY ρ) (r:ρ),X h b K=some r->∀ν w vals,HR ν h w->ĕ (VR ν h w) b vals->I8 P f ν h w vals K r
structure I7 (E:Env ρ):Prop where
 pure:∀f p,E.pure f=some p->ja E.P f p
 sort:∀f,E.sort f=true->∀(h:CK Blk) (x:AV) (K:AV->CK Blk->BY ρ) (r:ρ),Vg h x K=some r->∀ν w u,HR ν h w->VR ν h w x u->I8 E.P f ν h w [u] K r
 compact:∀f,E.compact f=true->∀(h:CK Blk) (x:AV) (K:AV->CK Blk->BY ρ) (r:ρ),qR h x K=some r->∀ν w u,HR ν h w->VR ν h w x u->I8 E.P f ν h w [u] K r
 plain : ∀ (f : Nat) (fn : Func), E.P.funcs[f]? = some fn -> (fn.name == "runtime.NumGoroutine") = false
 clone:Kt E.P E.clone
 joins:aaY E
 yld:lR E
 ext:∀f X,E.ext f=some X->agH E.P f X
omit [Ghost] in
def ajE {E:Env ρ} (n:Nat):(∀f p,E.pure f=some p->∀path c b h K,ŧ E (n+1) path c f b h K=Vq (c&&!E.fz f) p h b K) /\
 (∀f,E.pure f=none->E.sort f=true->∀path c b h K,ŧ E (n+1) path c f b h K=match b with|[x]=>Vg h x K|_=>none) /\
 (∀f,E.pure f=none->E.sort f=false->E.compact f=true->∀path c b h K,ŧ E (n+1) path c f b h K=match b with|[x]=>qR h x K|_=>none) :=
 ⟨fun f p d path c b h K=>by simp only[ŧ,d],fun f d e path c b h K=>by simp only[ŧ,d,e]; rfl,fun f d e i path c b h K=>by simp only[ŧ,d,e,i]; rfl⟩
omit [Ghost] in
def sQ {E:Env ρ} (i:∀[Ghost],lR E->I7 E) (hdraw:∀[Ghost] L call,nH E L call->xp E L call)
 (hloops:∀n,n<=10->(∀[Ghost],lR E->nH E (22-2*n) (ŧ E n))->∀[Ghost],lR E->∀(path:CK Nat) (f:Nat) (fn:Func) (c:Code),path.length+2=22-2*n->E.P.funcs[f]?=some fn->fn.body=some c->∀x∈ß 0 c,uZ E path f x.1 x.2) :
 ∀n,n<=10->∀[Ghost],lR E->nH E (22-2*n) (ŧ E n):=by
 intro n
 induction n with
 |zero=>exact fun _ _ l=>⟨.inl fun _ _ _ _ _ _=>rfl,fun path q g m h K r _ e=>(by cases e),(i l).plain,(i l).clone,(i l).joins,l⟩
 |succ n v =>
  intro O k l;have hE:∀[Ghost],lR E->nH E (22-2*n) (ŧ E n):=v (by omega);have b:=i l;refine⟨.inr (ajE n),fun path q g m h K r N e ν w vals H C d=>?_,b.plain,b.clone,b.joins,l⟩;simp only[ŧ] at e
  split at e
  ·rename_i J z;exact aff (b.pure g J z) e H d
  ·split at e
   ·rename_i y
    split at e<;>try (cases e; done)
    rename_i x;obtain⟨u,rfl,s⟩:=d.one;exact b.sort g y h x K r e ν w u H s
   ·split at e
    ·rename_i A
     split at e<;>try (cases e; done)
     rename_i x;obtain⟨u,rfl,s⟩:=d.one;exact b.compact g A h x K r e ν w u H s
    ·split at e
     ·rename_i X B;exact b.ext g X B h m K r e ν w vals H d
     split at e<;>try (cases e; done)
     split at e<;>try (cases e; done)
     have j:path.length+2=22-2*n:=by omega
     have o:∀M,@lR (k.re k.G [] none M) ρ E:=fun _=>l;have p:∀M,@nH (k.re k.G [] none M) ρ E (22-2*n) (ŧ E n):=fun M=>@hE (k.re k.G [] none M) (o M);exact yH p (fun M=>@hdraw (k.re k.G [] none M) _ _ (p M)) j (fun M fn c I h2=>@hloops n (by omega) hE (k.re k.G [] none M) (o M) path g fn c j I h2) e H C d
end
end Go.Am
end

noncomputable section
namespace Go.Am
variable [Ghost]
section
variable {ρ:Type} {P:Program} {h h2:CK Blk} {t t2:CK AV}
def pO (h h2:CK Blk) (v:AV):Prop:=∀id∈refs2 h v,lkB h2 id=lkB h id
def pO.one {v:AV} (b:pO h h2 v):∀id∈refs1 v,lkB h2 id=lkB h id:=fun id hi=>b id (by simp only[refs2,de]; exact .inl hi)
def pO.refs {v:AV} (d:pO h h2 v):refs2 h2 v=refs2 h v:=by
 simp only[refs2]
 have:∀(l:CK Nat),(∀id∈l,lkB h2 id=lkB h id)->(l.flatMap fun id=>(QP (lkB h2 id)).flatMap Ŏ)=l.flatMap fun id=>(QP (lkB h id)).flatMap Ŏ:=by
  intro l
  induction l with
  |nil=>intro _; rfl
  |cons x l c=>intro b; simp only[dz]; rw[b x (by simp),c fun id hi=>b id (by simp[hi])]
 rw[this _ d.one]
def qX {v:AV} (b:∀id∈Ŏ v,lkB h2 id=lkB h id):ă h2 v=ă h v:=by
 cases v<;>first
  |rfl
  |(simp only[ă]; rw[b _ (by simp[Ŏ])])
def Nk {v:AV} (d:∀id∈refs1 v,lkB h2 id=lkB h id):acY h2 v=acY h v:=by
 have one:(∀id∈Ŏ v,lkB h2 id=lkB h id)->ă h2 v=ă h v:=qX
 cases v with
 |agg cs =>
  simp only[acY,AV.agg.injEq];exact fi fun c e=>qX fun id hi=>d id (dA.2 ⟨c,e,hi⟩)
 |fn f a b=>exact one fun _ hi=>by cases hi
 |_=>exact one d
def afK {ty:TypeId} {a:AV} (b:∀id∈refs1 a,lkB h2 id=lkB h id) (K:AV->BY ρ):SO P h2 ty a K=SO P h ty a K:=by
 cases a<;>first
  |rfl
  |(simp only[SO]; rw[b _ (by simp[refs1,Ŏ])])
def abg {o:Nat} {a:AV} (b:∀id∈refs1 a,lkB h2 id=lkB h id) (K:AV->BY ρ):Df h2 a o K=Df h a o K:=by
 cases a<;>first
  |rfl
  |(simp only[Df]; rw[b _ (by simp[refs1,Ŏ])])
def abX {sz:Nat} {a i:AV} (b:∀id∈refs1 a,lkB h2 id=lkB h id) (K:AV->BY ρ):Ip sz h2 a i K=Ip sz h a i K:=by
 cases i<;>try rfl
 cases a<;>first
  |rfl
  |(simp only[Ip]; rw[b _ (by simp[refs1,Ŏ])])
def aiI {d:BY TypeDesc} {a:AV} (b:∀id∈refs1 a,lkB h2 id=lkB h id) (K:AV->BY ρ):aln d h2 a K=aln d h a K:=by
 unfold aln
 split<;>cases a<;>first
  |rfl
  |(simp only[]; rw[b _ (by simp[refs1,Ŏ])])
def Z1 {ty:TypeId} {m i:AV} {ok:Bool} (b:∀id∈refs1 m,lkB h2 id=lkB h id) (K:AV->BY ρ):vm P h2 ty m i ok K=vm P h ty m i ok K:=by
 unfold vm
 have:ă h2 m=ă h m:=qX fun id hi=>b id (by cases m<;>first|exact hi|simp[Ŏ] at hi)
 rw[this]
def Ky {σ:Type} {sz:Nat} {a:AV} {lo hi:BY AV} (K:AV->CK Blk->BY σ):ti sz h a lo hi false K=(ti sz h a lo hi false fun v _=>some v).bind fun v=>K v h:=by
 unfold ti;dsimp only
 (repeat' split)<;>rfl
def abe {sz:Nat} {a:AV} {lo hi:BY AV} (b:∀id∈refs1 a,lkB h2 id=lkB h id):∃φ:BY AV,(∀{σ:Type} (K:AV->CK Blk->BY σ),ti sz h a lo hi false K=φ.bind fun v=>K v h)/\∀{σ:Type} (K:AV->CK Blk->BY σ),ti sz h2 a lo hi false K=φ.bind fun v=>K v h2:=by
 refine⟨ti sz h a lo hi false fun v _=>some v,fun K=>?_,fun K=>?_⟩
 ·exact Ky K
 ·rw[Ky K];congr 1
  cases a<;>first
   |rfl
   |(simp only[ti]; rw[b _ (by simp[refs1,Ŏ])])
def ap (nid:Nat) (b:BY Blk) (h:CK Blk):CK Blk:=match b with|none=>h|some B=>Đ h nid B
def pbind {α σ σ2:Type} {R:BY σ->BY σ2->Prop} (h0:R none none) {x:BY α} {K:α->BY σ} {K2:α->BY σ2} (h:∀a,R (K a) (K2 a)):R (x.bind K) (x.bind K2):=by
 cases x with
 |none=>exact h0
 |some a=>exact h a
def pb2 {α σ σ2:Type} {R:BY σ->BY σ2->Prop} (h0:R none none) {x:BY α} {K:α->BY σ} {K2:α->BY σ2} {z:BY σ} {b:BY σ2} (c:z=x.bind K) (h2:b=x.bind K2) (h:∀a,R (K a) (K2 a)):R z b:=by
 subst c h2; exact pbind h0 h
def N2 {l:CK Operand} (b:∀x∈l,ev t2 x=ev t x):l.map (ev t2)=l.map (ev t):=fi b
def ah6 {l:CK (Nat×Operand)} (b:∀x∈l.map (·.2),ev t2 x=ev t x):(l.map fun p=>(p.1,ev t2 p.2))=l.map fun p=>(p.1,ev t p.2):=fi fun p c=>by rw[b p.2 (dw.2 ⟨p,c,rfl⟩)]
def Te {ty:Ty}:∀{ps:CK (Nat×AV)} {n:Nat},(∀p∈ps,∀id∈refs1 p.2,lkB h2 id=lkB h id)->Rl h2 ty n ps=Rl h ty n ps
 |[],_,_=>rfl
 |(i,v)::ps,n,b=>by
  simp only[Rl];rw[Nk (b (i,v) (by simp)),Te fun q c=>b q (by simp[c])]
def amI {σ σ2:Type} {R:BY σ->BY σ2->Prop} {E:Env ρ} {o:Op} {nid:Nat} {K:AV->St->BY σ} {K2:AV->St->BY σ2} (h0:R none none) (z:cls E o<=1) (G:UB o=false)
 (d:∀x∈o.operands.toList,ev t2 x=ev t x) (C:cls E o=1->∀x∈o.operands.toList,∀id∈refs1 (ev t x),lkB h2 id=lkB h id)
 (J:∀v I,(I.isSome=true->Ę E.clone o=true)->R (K v {t:=t,h:=ap nid I h}) (K2 v {t:=t2,h:=ap nid I h2})) :
 R (opK P {t:=t,h:=h} nid false o K) (opK P {t:=t2,h:=h2} nid false o K2):=by
 have k:∀v,R (K v {t:=t,h:=h}) (K2 v {t:=t2,h:=h2}):=fun v=>J v none (by simp);have ha:Ę E.clone o=true->∀v B,R (K v {t:=t,h:=Đ h nid B}) (K2 v {t:=t2,h:=Đ h2 nid B}):=fun al v B=>J v (some B) fun _=>al
 cases o with
 |move x =>
  have e:=d x (by simp[Op.operands]);simp only[opK,e]; exact k _
 |assign x =>
  have e:=d x (by simp[Op.operands]);simp only[opK,e]; exact k _
 |pick c a b =>
  have p:=d c (by simp[Op.operands]);have u:=d a (by simp[Op.operands]);have T:=d b (by simp[Op.operands]);simp only[opK,p,u,T]
  (repeat' split)<;>first|exact h0|exact k _
 |box _ x =>
  have e:=d x (by simp[Op.operands]);simp only[opK,e]
  (repeat' split)<;>first|exact h0|exact ha rfl _ _
 |alloc e =>
  simp only[opK]
  (repeat' split)<;>first|exact h0|exact ha rfl _ _
 |build ty ps =>
  have e:=ah6 (l:=ps.toList) (t:=t) (t2:=t2) fun x q=>d x (by simpa[Op.operands] using q);simp only[opK,e]
  (repeat' split)<;>first|exact h0|exact k _
 |buildSlice ty n ps=>exact absurd z (by decide:¬2<=1)
 |load ty a =>
  have e:=d a (by simp[Op.operands]);have j:=C rfl a (by simp[Op.operands]);simp only[opK,e];rw[afK j];exact pb2 h0 (wH ..) (wH ..) fun v=>k v
 |nilCheck x =>
  have e:=d x (by simp[Op.operands]);have j:=C rfl x (by simp[Op.operands]);simp only[opK,e]
  cases O:ev t x with
  |optr id g i off =>
   have:=j id (by rw[O]; simp[refs1,Ŏ]);simp only[this]
   (repeat' split)<;>first|exact h0|exact k _
  |_=>first|exact h0|exact k _
 |binOp op ty x y yt =>
  have p:=d x (by simp[Op.operands]);have u:=d y (by simp[Op.operands]);simp only[opK,p,u];exact pb2 h0 (CL ..) (CL ..) fun v=>k v
 |unOp op ty x =>
  have e:=d x (by simp[Op.operands]);simp only[opK,e]
  (repeat' split)<;>first|exact h0|exact k _|exact pb2 h0 (FP ..) (FP ..) fun v=>k v
 |convert src dst x =>
  have e:=d x (by simp[Op.operands]);simp only[opK,e]
  (repeat' split)<;>first|exact h0|exact k _
 |makeFunc fn first captured =>
  have p:=N2 (l:=first.toList) (t:=t) (t2:=t2) fun x q=>d x (by simp[Op.operands]; exact .inl (by simpa using q));have u:=N2 (l:=captured.toList) (t:=t) (t2:=t2) fun x q=>d x (by simp[Op.operands]; exact .inr (by simpa using q));simp only[opK,p,u]
  (repeat' split)<;>first|exact h0|exact k _
 |makeMap ty r =>
  simp only[opK]
  (repeat' split)<;>first|exact h0|exact ha rfl _ _
 |makeSlice ty l c =>
  have e:=d l (by simp[Op.operands]);simp only[opK,e]
  (repeat' split)<;>first|exact h0|exact ha rfl _ _
 |slice ty x lo hi mx =>
  have e:=d x (by simp[Op.operands]);have j:=C rfl x (by simp[Op.operands])
  have p:lo.map (ev t2)=lo.map (ev t):=by
   cases lo with
   |none=>rfl
   |some l=>simp[d l (by simp[Op.operands])]
  have u:hi.map (ev t2)=hi.map (ev t):=by
   cases hi with
   |none=>rfl
   |some l=>simp[d l (by simp[Op.operands])]
  simp only[opK,e,p,u]
  (repeat' split)<;>first
   |exact h0
   | (obtain ⟨φ, N, L⟩ := abe j
      rw[N,L]
      exact pbind h0 fun v=>k v)
 |fieldAddr ty x f =>
  have e:=d x (by simp[Op.operands]);have j:=C rfl x (by simp[Op.operands]);simp only[opK,e]
  (repeat' split)<;>first
   |exact h0
   |(rw[abg j]; exact pb2 h0 (qY ..) (qY ..) fun v=>k v)
 |field ty x f =>
  have e:=d x (by simp[Op.operands]);simp only[opK,e]
  (repeat' split)<;>first|exact h0|exact k _
 |indexAddr ty x i =>
  have p:=d x (by simp[Op.operands]);have u:=d i (by simp[Op.operands]);have j:=C rfl x (by simp[Op.operands]);simp only[opK,p,u]
  (repeat' split)<;>first
   |exact h0
   |exact k _
   |exact pb2 h0 (jv ..) (jv ..) fun v=>k _
   |(rw[abX j]; exact pb2 h0 (rj ..) (rj ..) fun v=>k v)
 |index ty x i =>
  have p:=d x (by simp[Op.operands]);have u:=d i (by simp[Op.operands]);simp only[opK,p,u]
  (repeat' split)<;>first|exact h0|exact k _|exact pb2 h0 (jv ..) (jv ..) fun v=>by(repeat' split)<;>first|exact h0|exact k _
 |lookup ty m i ok =>
  have p:=d m (by simp[Op.operands]);have u:=d i (by simp[Op.operands]);have j:=C rfl m (by simp[Op.operands]);simp only[opK,p,u];rw[Z1 j];exact pb2 h0 (oj ..) (oj ..) fun v=>k v
 |extract x i =>
  have e:=d x (by simp[Op.operands]);simp only[opK,e]
  (repeat' split)<;>first|exact h0|exact k _
 |call c =>
  obtain⟨A,s,tys⟩:=c
  cases A with
  |builtin b =>
   have e:=N2 (l:=s.toList) (t:=t) (t2:=t2) fun x q=>d x (by simpa[Op.operands,Call.operands] using q);have j:cls E (.call ⟨.builtin b,s,tys⟩)=1->∀x∈s.toList,∀id∈refs1 (ev t x),lkB h2 id=lkB h id:=fun S x q=>C S x (by simpa[Op.operands,Call.operands] using q);generalize H:s.toList=l at e j;generalize q:tys.toList=m
   cases b with
   |append=>simp[cls] at z
   |clear=>simp[cls] at z
   |len =>
    rcases l with _|⟨x,_|⟨y,l⟩⟩<;>rcases m with _|⟨ty,m⟩<;>simp only[opK,H,q]<;>try exact h0
    have p:ev t2 x=ev t x:=by simpa using e
    rw[p,aiI (j rfl x (by simp))];exact pb2 h0 (Ch ..) (Ch ..) fun v=>k v
   |cap =>
    rcases l with _|⟨x,_|⟨y,l⟩⟩<;>rcases m with _|⟨ty,m⟩<;>simp only[opK,H,q]<;>try exact h0
    have p:ev t2 x=ev t x:=by simpa using e
    rw[p]
    (repeat' split)<;>first|exact h0|exact k _
   |min =>
    rcases l with _|⟨x,l⟩<;>simp only[opK,H,q]<;>try exact h0
    simp only[eV,List.cons.injEq] at e;rw[e.1,e.2];exact pb2 h0 (jh _ _ _ _) (jh _ _ _ _) fun v=>k v
   |max =>
    rcases l with _|⟨x,l⟩<;>simp only[opK,H,q]<;>try exact h0
    simp only[eV,List.cons.injEq] at e;rw[e.1,e.2];exact pb2 h0 (jh _ _ _ _) (jh _ _ _ _) fun v=>k v
   |_=>simp only[opK]; (repeat' split)<;>first|exact h0|contradiction
  |value f=>cases G
  |invoke r m=>exact h0
 |store=>simp[cls] at z
 |mapUpdate=>simp[cls] at z
 |_=>exact h0
def aps (ups:CK (Nat×Blk)) (h:CK Blk):CK Blk:=ups.foldl (fun h p=>Đ h p.1 p.2) h
def acB {id:Nat} {B:Blk}:aps [(id,B)] h=Đ h id B:=rfl
def oz {u v:CK (Nat×Blk)}:aps (u++v) h=aps v (aps u h):=by simp[aps]
def wI:∀(ups:CK (Nat×Blk)) (h:CK Blk),(aps ups h).length=h.length
 |[],_=>rfl
 |p::ups,h=>by show(aps ups (Đ h p.1 p.2)).length=_; rw[wI ups,á]
def U8 {id:Nat}:∀{ups:CK (Nat×Blk)} {h:CK Blk},(∀p∈ups,p.1≠id)->lkB (aps ups h) id=lkB h id
 |[],_,_=>rfl
 |p::ups,h,b=>by
  show lkB (aps ups (Đ h p.1 p.2)) id=_;rw[U8 fun q c=>b q (by simp[c]),Ù _ (Ne.symm (b p (by simp)))]
def CM {id:Nat}:∀{ups:CK (Nat×Blk)} {h h2:CK Blk},h2.length=h.length->lkB h2 id=lkB h id->lkB (aps ups h2) id=lkB (aps ups h) id
 |[],_,_,_,b=>b
 |p::ups,h,h2,c,b=>CM (ups:=ups) (h:=Đ h p.1 p.2) (h2:=Đ h2 p.1 p.2) (by simp[á,c]) (by simp only[yn,c,b])
def aej {v:AV} (f:∀id∈Ŏ v,lkB h2 id=lkB h id):∃ups,sS h v=aps ups h/\sS h2 v=aps ups h2/\∀p∈ups,p.1∈Ŏ v:=by
 have c:sS h v=h->sS h2 v=h2->∃ups,sS h v=aps ups h/\sS h2 v=aps ups h2/\∀p∈ups,p.1∈Ŏ v:=fun i d=>⟨[],i,d,by simp⟩
 cases v with
 |own id g =>
  have e:=f id (by simp[Ŏ])
  cases b:lkB h id with
  |row t g fz xs =>
   rw[b] at e;exact⟨[(id,.row t g true xs)],by simp only[sS,b]; rfl,by simp only[sS,e]; rfl,by simp[Ŏ]⟩
  |_=>rw[b] at e; exact c (by simp only[sS,b]) (by simp only[sS,e])
 |sub id g lo n =>
  have e:=f id (by simp[Ŏ])
  cases b:lkB h id with
  |row t g fz xs =>
   rw[b] at e;exact⟨[(id,.row t g true xs)],by simp only[sS,b]; rfl,by simp only[sS,e]; rfl,by simp[Ŏ]⟩
  |_=>rw[b] at e; exact c (by simp only[sS,b]) (by simp only[sS,e])
 |_=>exact c rfl rfl
def WU:∀{cs:CK AV} {h h2:CK Blk},h2.length=h.length->(∀c∈cs,∀id∈Ŏ c,lkB h2 id=lkB h id)->∃ups,C8 h cs=aps ups h/\C8 h2 cs=aps ups h2/\∀p∈ups,∃c∈cs,p.1∈Ŏ c
 |[],_,_,_,_=>⟨[],rfl,rfl,by simp⟩
 |c::cs,h,h2,i,f=>by
  obtain⟨u,j,e,o⟩:=aej (f c (by simp));obtain⟨v,m,l,k⟩:=WU (cs:=cs) (h:=sS h c) (h2:=sS h2 c) (by rw[ot,ot,i]) (fun d hd id hi=>by rw[j,e]; exact CM i (f d (by simp[hd]) id hi));refine⟨u++v,by simp only[C8]; rw[m,j,oz],by simp only[C8]; rw[l,e,oz],fun p b=>?_⟩;rcases de.1 b with b|b
  ·exact⟨c,by simp,o p b⟩
  ·obtain⟨d,hd,hi⟩:=k p b;exact⟨d,by simp[hd],hi⟩
def ab4 {v:AV} (l:h2.length=h.length) (k:∀id∈refs1 v,lkB h2 id=lkB h id):∃ups,frz h v=aps ups h/\frz h2 v=aps ups h2/\∀p∈ups,p.1∈refs1 v:=by
 have one:(∀id∈Ŏ v,lkB h2 id=lkB h id)->∃ups,sS h v=aps ups h/\sS h2 v=aps ups h2/\∀p∈ups,p.1∈Ŏ v:=aej
 cases v with
 |agg cs =>
  obtain⟨u,j,d,i⟩:=WU (cs:=cs) l fun c m id hi=>k id (dA.2 ⟨c,m,hi⟩);exact⟨u,j,d,fun p e=>dA.2 (i p e)⟩
 |fn f a b =>
  obtain⟨u,j,d,i⟩:=one fun _ hi=>by cases hi
  exact⟨u,j,d,fun p e=>by cases i p e⟩
 |_=>exact one k
def Kx {ty:Ty} {x:AV} (b:∀id∈refs1 x,lkB h2 id=lkB h id):Ü (.slice ty) [ă h2 x]=Ü (.slice ty) [ă h x]:=by
 have:ă h2 x=ă h x:=qX fun id hi=>b id (by cases x<;>first|exact hi|simp[Ŏ] at hi)
 rw[this]
def agb {v:AV} {vs:CK AV} (d:š v=some vs):∀c∈vs,∀id∈Ŏ c,id∈refs1 v:=by
 intro c b id hi
 cases v<;>simp only[š,Option.some.injEq,reduceCtorEq] at d<;>subst d
 all_goals first
  |(simp only[dh] at b; subst b; exact hi)
  |(simp only[dh] at b; subst b; cases hi; done)
  |exact dA.2 ⟨c,b,hi⟩
def XT {σ σ2:Type} {R:BY σ->BY σ2->Prop} {ty:TypeId} {a v:AV} {K:CK Blk->BY σ} {K2:CK Blk->BY σ2} (h0:R none none) (d:h2.length=h.length)
 (k:∀id∈refs1 a,lkB h2 id=lkB h id) (j:∀id∈refs1 v,lkB h2 id=lkB h id) (l:∀ups,(∀p∈ups,p.1∈refs1 a\/p.1∈refs1 v)->R (K (aps ups h)) (K2 (aps ups h2))):R (yQ P h ty a v K) (yQ P h2 ty a v K2):=by
 unfold yQ
 split<;>try exact h0
 rename_i vs e
 split<;>try exact h0
 split<;>try exact h0
 ·rename_i id off;have f:=k id (by simp[refs1,Ŏ]);rw[f]
  (repeat' split)<;>first
   |exact h0
   |exact l [(id,_)] fun p b=>.inl (by simp only[dh] at b; subst b; simp[refs1,Ŏ])
 ·rename_i id g i off;have f:=k id (by simp[refs1,Ŏ]);obtain⟨u,o,m,s⟩:=ab4 (v:=v) d j
  have y:lkB (frz h2 v) id=lkB (frz h v) id:=by rw[o,m]; exact CM d f
  have x:vs.map (ă h2)=vs.map (ă h):=fi fun c r=>qX fun id hi=>j id (agb e c r id hi);rw[y,x]
  (repeat' split)<;>first
   |exact h0
   | (rw [o, m]
      refine l (u++[(id,_)]) (fun p b=>?_) |> fun q=>(by simpa only[oz,acB] using q)
      rcases de.1 b with b|b
      ·exact .inr (s p b)
      ·exact .inl (by simp only[dh] at b; subst b; simp[refs1,Ŏ]))
def aeh:∀{ps:CK (Nat×AV)} {h h2:CK Blk},h2.length=h.length->(∀p∈ps,∀id∈refs1 p.2,lkB h2 id=lkB h id)->∃ups,frzA h ps=aps ups h/\frzA h2 ps=aps ups h2/\∀p∈ups,∃q∈ps,p.1∈refs1 q.2
 |[],_,_,_,_=>⟨[],rfl,rfl,by simp⟩
 |(i,v)::ps,h,h2,e,j=>by
  obtain⟨u,f,b,o⟩:=ab4 (v:=v) e (j (i,v) (by simp));obtain⟨w,m,l,k⟩:=aeh (ps:=ps) (h:=frz h v) (h2:=frz h2 v) (by rw[f,b,wI,wI,e]) (fun q d id hi=>by rw[f,b]; exact CM e (j q (by simp[d]) id hi));refine⟨u++w,by simp only[frzA]; rw[m,f,oz],by simp only[frzA]; rw[l,b,oz],fun p c=>?_⟩;rcases de.1 c with c|c
  ·exact⟨(i,v),by simp,o p c⟩
  ·obtain⟨q,d,hi⟩:=k p c;exact⟨q,by simp[d],hi⟩
def anD {σ σ2:Type} {R:BY σ->BY σ2->Prop} {E:Env ρ} {o:Op} {nid:Nat} {eat:Bool} {K:AV->St->BY σ} {K2:AV->St->BY σ2} (h0:R none none) (S:cls E o=2) (T:UB o=false) (k:h2.length=h.length) (heat:∀ty n ps,o=.buildSlice ty n ps->eat=false)
 (L:∀x∈o.operands.toList,ev t2 x=ev t x) (U:∀x∈o.operands.toList,∀id∈refs1 (ev t x),lkB h2 id=lkB h id)
 (J:∀v ups,(∀p∈ups,(p.1=nid/\Ę E.clone o=true)\/∃x∈o.operands.toList,p.1∈refs1 (ev t x))->R (K v {t:=t,h:=aps ups h}) (K2 v {t:=t2,h:=aps ups h2})) :
 R (opK P {t:=t,h:=h} nid eat o K) (opK P {t:=t2,h:=h2} nid eat o K2):=by
 cases o with
 |buildSlice ty n ps =>
  obtain rfl:=heat ty n ps rfl;have e:=ah6 (l:=ps.toList) (t:=t) (t2:=t2) fun x A=>L x (by simpa[Op.operands] using A)
  have Y:∀p∈ps.toList.map (fun p=>(p.1,ev t p.2)),∀id∈refs1 p.2,lkB h2 id=lkB h id:=fun p d=>by
   obtain⟨q,hq,rfl⟩:=dw.1 d;exact U q.2 (by simpa[Op.operands] using⟨q.1,by simpa using hq⟩)
  have hr:∀ty n,Rl h2 ty n (ps.toList.map fun p=>(p.1,ev t p.2))=Rl h ty n (ps.toList.map fun p=>(p.1,ev t p.2)):=fun ty n=>Te Y;obtain⟨u,f1,f2,f3⟩:=aeh k Y;simp only[opK,e,hr,f1,f2]
  (repeat' split)<;>first
   |exact h0
   | (refine J _ (u ++ [(nid, _)]) (fun p d => ?_) |> fun q => (by simpa only [oz, acB] using q)
      rcases de.1 d with d|d
      ·obtain⟨q,hq,hi⟩:=f3 p d;obtain⟨q',hq',rfl⟩:=dw.1 hq;exact .inr ⟨q'.2,by simpa[Op.operands] using⟨q'.1,by simpa using hq'⟩,hi⟩
      ·exact .inl ⟨by simp only[dh] at d; subst d; rfl,rfl⟩)
 |store ty a v =>
  have e1:=L a (by simp[Op.operands]);have e2:=L v (by simp[Op.operands]);have W:=U a (by simp[Op.operands]);have s2:=U v (by simp[Op.operands]);have ma:∀{id:Nat},id∈refs1 (ev t a)->∃x∈(Op.store ty a v).operands.toList,id∈refs1 (ev t x):=fun hi=>⟨a,by simp[Op.operands],hi⟩;have Z:∀{id:Nat},id∈refs1 (ev t v)->∃x∈(Op.store ty a v).operands.toList,id∈refs1 (ev t x):=fun hi=>⟨v,by simp[Op.operands],hi⟩;simp only[opK,e1,e2]
  cases eat with
  |false =>
   simp only;exact XT h0 k W s2 fun ups O=>J _ ups fun p d=>.inr ((O p d).elim ma Z)
  |true =>
   simp only
   cases N:ev t v with
   |sub id g lo n =>
    rw[N] at s2 Z;have e3:=s2 id (by simp[refs1,Ŏ]);simp only[e3]
    split<;>try exact h0
    split<;>try exact h0
    refine XT h0 (by simp[á,k]) (fun j hj=>?_) (fun j hj=>?_) fun ups O=>J _ ((id,_)::ups) fun p d=>.inr ?_
    ·exact CM (ups:=[(id,_)]) k (W j hj)
    ·simp only[refs1,Ŏ,dh] at hj;subst hj;exact CM (ups:=[(_,_)]) k e3
    ·rcases df.1 d with rfl|d
     ·exact Z (by simp[refs1,Ŏ])
     ·rcases O p d with O|O
      ·exact ma O
      ·exact Z (by simpa[refs1,Ŏ] using O)
   |_=>exact h0
 |mapUpdate ty m i x =>
  have e1:=L m (by simp[Op.operands]);have e2:=L i (by simp[Op.operands]);have e3:=L x (by simp[Op.operands]);have W:=U m (by simp[Op.operands]);have s3:=U x (by simp[Op.operands]);obtain⟨u,f1,f2,f3⟩:=ab4 (v:=ev t x) k s3;simp only[opK,e1,e2,e3];unfold mn;rw[Nk s3]
  split<;>try exact h0
  split<;>try exact h0
  rename_i id A;rw[A] at W;rw[W id (by simp[refs1,Ŏ])]
  (repeat' split)<;>first
   |exact h0
   | (rw [f1, f2]
      refine J _ (u++[(id,_)]) (fun p d=>?_) |> fun q=>(by simpa only[oz,acB] using q)
      rcases de.1 d with d|d
      ·exact .inr ⟨x,by simp[Op.operands],f3 p d⟩
      ·exact .inr ⟨m,by simp[Op.operands],by simp only[dh] at d; subst d; rw[A]; simp[refs1,Ŏ]⟩)
 |call c =>
  obtain⟨H,s,tys⟩:=c
  cases H with
  |builtin b =>
   have e:=N2 (l:=s.toList) (t:=t) (t2:=t2) fun x A=>L x (by simpa[Op.operands,Call.operands] using A);have G:∀x∈s.toList,∀id∈refs1 (ev t x),lkB h2 id=lkB h id:=fun x A=>U x (by simpa[Op.operands,Call.operands] using A)
   have C:∀x∈s.toList,x∈(Op.call ⟨.builtin b,s,tys⟩).operands.toList:=fun x A=>by simpa[Op.operands,Call.operands] using A
   generalize hl:s.toList=l at e G C;generalize A:tys.toList=m
   cases b with
   |append =>
    rcases l with _|⟨x,_|⟨y,_|⟨z,l⟩⟩⟩<;>rcases m with _|⟨ty,_|⟨ty',_|⟨ty'',m⟩⟩⟩<;>simp only[opK,hl,A]<;>try exact h0
    simp only[eV,List.cons.injEq,fu,and_true] at e;rw[e.1,e.2];have V:=G x (by simp);have sy:=G y (by simp);have I:∀v B,R (K v {t:=t,h:=Đ h nid B}) (K2 v {t:=t2,h:=Đ h2 nid B}):=fun v B=>J v [(nid,B)] fun p d=>.inl ⟨by simp only[dh] at d; subst d; rfl,rfl⟩
    (repeat' split)<;>first
     |exact h0
     | (unfold BS
        simp only[Kx sy]
        split<;>try exact h0
        split<;>try exact h0
        split<;>try exact h0
        split<;>try exact h0
        split<;>try exact h0
        ·split<;>first|exact h0|exact I _ _
        ·rename_i id g N;rw[N] at V;rw[V id (by simp[refs1,Ŏ])]
         (repeat' split)<;>first
          |exact h0
          |exact J _ [(id,_)] fun p d=>.inr ⟨x,C x (by simp),by simp only[dh] at d; subst d; rw[N]; simp[refs1,Ŏ]⟩)
     | (unfold Ku
        (repeat' split)<;>first|exact h0|exact I _ _)
   |clear =>
    rcases l with _|⟨x,_|⟨y,l⟩⟩<;>rcases m with _|⟨ty,_|⟨ty',m⟩⟩<;>simp only[opK,hl,A]<;>try exact h0
    simp only[eV,List.cons.injEq,fu,and_true] at e;rw[e];have V:=G x (by simp)
    split<;>try exact h0
    unfold Lf
    split<;>try exact h0
    ·exact J _ [] (by simp)
    ·rename_i id g lo n _ N _;rw[N] at V;rw[V id (by simp[refs1,Ŏ])]
     (repeat' split)<;>first
      |exact h0
      |exact J _ [(id,_)] fun p d=>.inr ⟨x,C x (by simp),by simp only[dh] at d; subst d; rw[N]; simp[refs1,Ŏ]⟩
   |_=>simp[cls] at S
  |value f=>cases T
  |invoke r m=>simp[cls] at S
 |_=>simp[cls] at S
end
end Go.Am
end

noncomputable section
namespace Go.Am
variable [Ghost]
section
variable {ρ:Type} {P:Program} {h h2:CK Blk} {t t2:CK AV}
def aaP {ty:Ty} {a:AV} (d:pO h h2 a):aml h2 ty a=aml h ty a:=by
 have b:acY h2 a=acY h a:=Nk d.one
 cases ty with
 |ptr u =>
  cases a with
  |box id off =>
   cases off with
   |zero =>
    have j:lkB h2 id=lkB h id:=d.one id (by simp[refs1,Ŏ]);simp only[aml,j]
    cases e:lkB h id with
    |cells cs =>
     simp only
     have:cs.map (ă h2)=cs.map (ă h):=fi fun c f=>qX fun i hi=>d i (by
      simp only[refs2,de,dA]
      exact .inr ⟨id,by simp[refs1,Ŏ],by rw[e]; exact⟨c,f,hi⟩⟩)
     rw[this]
    |_=>rfl
   |succ n=>rfl
  |eptr k x off=>cases off<;>rfl
  |_=>rfl
 |_=>cases a with
  |_=>simp only[aml,b]
def U6:∀{l:CK Ty} {ty:Ty} {as:CK AV},(∀a∈as,pO h h2 a)->Xt h2 l ty as=Xt h l ty as
 |[],ty,[],_=>rfl
 |[],ty,[a],c=>by simp only[Xt]; exact aaP (c a (by simp))
 |[],ty,_::_::_,_=>rfl
 |u::l,ty,[],_=>rfl
 |u::l,ty,a::as,c=>by
  simp only[Xt];rw[aaP (c a (by simp)),U6 fun b hb=>c b (by simp[hb])]
def U7 {l:CK Ty} {as:CK AV} (b:∀a∈as,pO h h2 a):FO h2 l as=FO h l as:=by
 cases l with
 |nil=>rfl
 |cons ty l=>exact U6 b
def acb {E:Env ρ} {o:Op} (c:∀x∈o.operands.toList,ev t2 x=ev t x):UR E t2 o=UR E t o:=by
 unfold UR
 split
 ·rename_i s b tys;rw[c (.tmp s) (by simp[Op.operands,Call.operands])]
 ·rfl
def QF {E:Env ρ} {o:Op} (d:∀x∈o.operands.toList,ev t2 x=ev t x) (e:1<=cls E o->∀x∈o.operands.toList,pO h h2 (ev t x)) :
 nO E {t:=t2,h:=h2} o=nO E {t:=t,h:=h} o:=by
 unfold nO
 split
 ·rename_i f;have b:1<=cls E o:=eW f
  have i:(o.operands.toList.all fun x=>(refs2 h2 (ev t2 x)).all fun id=>!aiQ (lkB h2 id))=o.operands.toList.all fun x=>(refs2 h (ev t x)).all fun id=>!aiQ (lkB h id):=by
   rw[eI];simp only[dC];refine forall_congr' fun x=>forall_congr' fun c=>?_;rw[d x c,(e b x c).refs]
   exact forall_congr' fun id=>forall_congr' fun hi=>by rw[e b x c id hi]
  exact congr (congrArg and i) (acb d)
 ·rfl
def qM {E:Env ρ} {o:Op} (b:1<=cls E o) {id:Nat}:id∈C9 E {t:=t,h:=h} o↔∃x∈o.operands.toList,id∈refs2 h (ev t x):=by
 unfold C9;have:Nat.ble 1 (cls E o)=true:=Nat.ble_eq_true_of_le b;simp only[this,List.mem_flatMap]
def Iw {E:Env ρ} {o:Op} (b:cls E o=0) {S:St}:C9 E S o=[]:=by
 unfold C9; rw[b]
def Loc (E:Env ρ) (o:Op) (nid:Nat) (t:CK AV) (h:CK Blk) (t2:CK AV) (h2:CK Blk) (z b:(AV->St->BY ρ)->BY ρ):Prop :=
 ∃φ:BY (AV×CK (Nat×Blk)),(∀r,φ=some r->∀p∈r.2,(p.1=nid/\Ę E.clone o=true)\/(cls E o=2/\p.1∈C9 E {t:=t,h:=h} o)) /\
  (∀K,z K=φ.bind fun r=>K r.1 {t:=t,h:=aps r.2 h})/\∀K,b K=φ.bind fun r=>K r.1 {t:=t2,h:=aps r.2 h2}
def Loc.no {E:Env ρ} {o:Op} {nid:Nat} {z c:(AV->St->BY ρ)->BY ρ} (d:∀K,z K=none) (b:∀K,c K=none):Loc E o nid t h t2 h2 z c :=
 ⟨none,by simp,fun K=>by rw[d]; rfl,fun K=>by rw[b]; rfl⟩
def ajx {σ σ2:Type} {R:BY σ->BY σ2->Prop} {g nid:Nat} {fz:Bool} {x:AV} {K:AV->St->BY σ} {K2:AV->St->BY σ2} (h0:R none none) (d:∀id∈refs1 x,lkB h2 id=lkB h id)
 (b:∀v c,R (K v {t:=t,h:=ap nid c h}) (K2 v {t:=t2,h:=ap nid c h2})):R (BF P g fz {t:=t,h:=h} nid x K) (BF P g fz {t:=t2,h:=h2} nid x K2):=by
 simp only[BF,Kx d]
 (repeat' split)<;>first|exact h0|exact b _ none|exact b _ (some _)
def efU (nid:Nat):BY Blk->CK (Nat×Blk)
 |none=>[]
 |some B=>[(nid,B)]
def aeO {nid:Nat} {b:BY Blk}:ap nid b h=aps (efU nid b) h:=by cases b<;>rfl
def anq {E:Env ρ} {call:CK Nat->Bool->Nat->CK AV->CK Blk->(AV->CK Blk->BY ρ)->BY ρ} {fid:Nat} {path:CK Nat} {nid:Nat} {o:Oper}
 (k:akz E call) (J:cls E o.op<=2) (hlen:h2.length=h.length) (hx:∀x∈o.op.operands.toList,ev t2 x=ev t x) (hs:1<=cls E o.op->∀x∈o.op.operands.toList,pO h h2 (ev t x)) :
 Loc E o.op nid t h t2 h2 (iE E call fid path true {t:=t,h:=h} nid o) (iE E call fid path true {t:=t2,h:=h2} nid o):=by
 have z:=QF hx hs
 cases L:nO E {t:=t,h:=h} o.op with
 |false=>exact .no (fun K=>by simp[iE,L]) (fun K=>by simp[iE,z,L])
 |true =>
  rw[L] at z
  have plain:(∀f d tys,o.op≠.call ⟨.value f,d,tys⟩)->Loc E o.op nid t h t2 h2 (iE E call fid path true {t:=t,h:=h} nid o) (iE E call fid path true {t:=t2,h:=h2} nid o):=by
   intro hno
   have C:∀S:St,nO E S o.op=true->∀K,iE E call fid path true S nid o K=opK E.P S nid (SU E true fid o) o.op K:=fun S Z K=>by
    unfold iE;simp only[Z,Bool.not_true,Bool.and_false,Bool.false_and]
   have Y:UB o.op=false:=by
    cases I:o.op<;>try rfl
    rename_i c;obtain⟨f,d,tys⟩:=c
    cases f<;>first|rfl|exact absurd I (hno _ _ _)
   have fin:(∃φ:BY (AV×CK (Nat×Blk)),(∀r,φ=some r->∀p∈r.2,(p.1=nid/\Ę E.clone o.op=true)\/(cls E o.op=2/\p.1∈C9 E {t:=t,h:=h} o.op)) /\
    opK E.P {t:=t,h:=h} nid (SU E true fid o) o.op (fun v S=>some (v,S))=φ.map (fun r=>(r.1,({t:=t,h:=aps r.2 h}:St)))/\opK E.P {t:=t2,h:=h2} nid (SU E true fid o) o.op (fun v S=>some (v,S))=φ.map fun r=>(r.1,({t:=t2,h:=aps r.2 h2}:St))) ->
    Loc E o.op nid t h t2 h2 (iE E call fid path true {t:=t,h:=h} nid o) (iE E call fid path true {t:=t2,h:=h2} nid o):=by
    rintro⟨φ,h1,h2',h3⟩;refine⟨φ,h1,fun K=>?_,fun K=>?_⟩
    ·rw[C _ L,VI]; unfold opR; rw[h2']; cases φ<;>rfl
    ·rw[C _ z,VI]; unfold opR; rw[h3]; cases φ<;>rfl
   apply fin
   by_cases h2c:cls E o.op=2
   ·refine anD (P:=E.P) (E:=E) (o:=o.op) (nid:=nid) (σ:=AV×St) (σ2:=AV×St) (K:=fun v S=>some (v,S)) (K2:=fun v S=>some (v,S))
     (R:=fun x y=>∃φ:BY (AV×CK (Nat×Blk)),(∀r,φ=some r->∀p∈r.2,(p.1=nid/\Ę E.clone o.op=true)\/(cls E o.op=2/\p.1∈C9 E {t:=t,h:=h} o.op))/\x=φ.map (fun r=>(r.1,({t:=t,h:=aps r.2 h}:St)))/\y=φ.map fun r=>(r.1,({t:=t2,h:=aps r.2 h2}:St)))
     ⟨none,by simp,rfl,rfl⟩ h2c Y hlen (fun ty n ps I=>by rw[SU,I]; rfl) hx (fun x G=>(hs (by omega) x G).one) fun v ups hu=>⟨some (v,ups),fun r H p m=>?_,rfl,rfl⟩
    cases H;rcases hu p m with hu|⟨x,G,hi⟩
    ·exact .inl hu
    ·exact .inr ⟨h2c,(qM (by omega)).2 ⟨x,G,by simp only[refs2,de]; exact .inl hi⟩⟩
   ·have hea:SU E true fid o=false:=by
     unfold SU
     cases I:o.op<;>first|rfl|(exfalso; apply h2c; rw[I]; rfl)
    rw[hea]
    refine amI (P:=E.P) (E:=E) (o:=o.op) (nid:=nid) (σ:=AV×St) (σ2:=AV×St) (K:=fun v S=>some (v,S)) (K2:=fun v S=>some (v,S))
     (R:=fun x y=>∃φ:BY (AV×CK (Nat×Blk)),(∀r,φ=some r->∀p∈r.2,(p.1=nid/\Ę E.clone o.op=true)\/(cls E o.op=2/\p.1∈C9 E {t:=t,h:=h} o.op))/\x=φ.map (fun r=>(r.1,({t:=t,h:=aps r.2 h}:St)))/\y=φ.map fun r=>(r.1,({t:=t2,h:=aps r.2 h2}:St)))
     ⟨none,by simp,rfl,rfl⟩ (by omega) Y hx (fun h1 x G=>(hs (by omega) x G).one) fun v ef hef=>⟨some (v,efU nid ef),fun r H p m=>?_,by rw[aeO]; rfl,by rw[aeO]; rfl⟩
    cases H
    cases ef with
    |none=>cases m
    |some B =>
     simp only[efU,dh] at m;subst m;exact .inl ⟨rfl,hef rfl⟩
  cases I:o.op with
  |call c =>
   obtain⟨f,d,tys⟩:=c
   cases f with
   |value f =>
    cases f with
    |func g =>
     rw[I] at hx hs J;have hxa:∀x∈d.toList,ev t2 x=ev t x:=fun x G=>hx x (by simp[Op.operands,Call.operands]; exact .inr (by simpa using G))
     have j:∀x∈d.toList,x∈(Op.call ⟨.value (.func g),d,tys⟩).operands.toList:=fun x G=>by simp[Op.operands,Call.operands]; exact .inr (by simpa using G)
     have he:=N2 hxa
     cases hc:E.clone g with
     |true =>
      have hcls:cls E (.call ⟨.value (.func g),d,tys⟩)=1:=by simp[cls,hc]
      have C:∀(S:St),nO E S o.op=true->∀K,iE E call fid path true S nid o K=match d.toList with
       |[x]=>BF E.P g (E.eat fid (o.dst.getD 0)) S nid (ev S.t x) K
       |_=>none:=fun S Z K=>by
       unfold iE;simp only[Z,Bool.not_true,Bool.and_false];rw[I];simp only[ev,hc,afN,Bool.and_self];rfl
      generalize hl:d.toList=l at C he hxa j;rcases l with _|⟨x,_|⟨y,l⟩⟩
      ·exact .no (fun K=>C _ L K) (fun K=>C _ z K)
      ·have hsx:=(hs (by omega) x (j x (by simp))).one;have e1:=hxa x (by simp)
       obtain⟨φ,h1,h2',h3⟩:=ajx (P:=E.P) (g:=g) (fz:=E.eat fid (o.dst.getD 0)) (nid:=nid) (t:=t) (t2:=t2) (σ:=AV×St) (σ2:=AV×St) (K:=fun v S=>some (v,S)) (K2:=fun v S=>some (v,S))
        (R:=fun x y=>∃φ:BY (AV×CK (Nat×Blk)),(∀r,φ=some r->∀p∈r.2,p.1=nid)/\x=φ.map (fun r=>(r.1,({t:=t,h:=aps r.2 h}:St)))/\y=φ.map fun r=>(r.1,{t:=t2,h:=aps r.2 h2}))
        ⟨none,by simp,rfl,rfl⟩ hsx fun v ef=>⟨some (v,efU nid ef),fun r H p m=>by
         cases H
         cases ef with
         |none=>cases m
         |some B=>simp only[efU,dh] at m; rw[m],by rw[aeO]; rfl,by rw[aeO]; rfl⟩
       refine⟨φ,fun r H p m=>.inl ⟨h1 r H p m,by simpa[Ę] using hc⟩,fun K=>?_,fun K=>?_⟩
       ·rw[C _ L];simp only;rw[Kh,h2']
        cases φ<;>rfl
       ·rw[C _ z];simp only[e1];rw[Kh,h3]
        cases φ<;>rfl
      ·exact .no (fun K=>C _ L K) (fun K=>C _ z K)
     |false =>
      have C:∀(S:St),nO E S o.op=true->∀K,iE E call fid path true S nid o K=call path true g (d.toList.map (ev S.t)) S.h fun v h=>K v {t:=S.t,h:=h}:=fun S Z K=>by
       unfold iE;simp only[Z,Bool.not_true,Bool.and_false];rw[I];simp only[ev,hc,afN,Bool.false_and,List.nil_append,List.append_nil]
      rcases k with k|⟨k,hse,hce⟩
      ·exact .no (fun K=>by rw[C _ L]; exact k _ _ _ _ _ _) (fun K=>by rw[C _ z]; exact k _ _ _ _ _ _)
      cases m:E.pure g with
      |none =>
       have h1c:1<=cls E (.call ⟨.value (.func g),d,tys⟩):=by simp only[cls,hc,m]; cases E.sort g<;>cases E.compact g<;>simp
       have row:∀(f:CK Blk->AV->(AV->CK Blk->BY ρ)->BY ρ),(∀S K,nO E S o.op=true->iE E call fid path true S nid o K=match d.toList.map (ev S.t) with|[x]=>f S.h x fun v h=>K v {t:=S.t,h:=h}|_=>none)->cls E (.call ⟨.value (.func g),d,tys⟩)=2 ->
        (∀x,(∀id∈refs1 x,lkB h2 id=lkB h id)->∃φ:BY (AV×CK (Nat×Blk)),(∀r,φ=some r->∀p∈r.2,p.1∈refs1 x)/\(∀K,f h x K=φ.bind fun r=>K r.1 (aps r.2 h))/\∀K,f h2 x K=φ.bind fun r=>K r.1 (aps r.2 h2)) ->
        Loc E (.call ⟨.value (.func g),d,tys⟩) nid t h t2 h2 (iE E call fid path true {t:=t,h:=h} nid o) (iE E call fid path true {t:=t2,h:=h2} nid o):=by
        intro f N h2c hloc;generalize hl:d.toList=l at N he j;rcases l with _|⟨x,_|⟨y,l⟩⟩
        ·exact .no (fun K=>N _ K L) (fun K=>N _ K z)
        ·obtain⟨φ,q1,q2,q3⟩:=hloc (ev t x) (hs h1c x (j x (by simp))).one;refine⟨φ,fun r H p m=>.inr ⟨h2c,(qM h1c).2 ⟨x,j x (by simp),by simp only[refs2,de]; exact .inl (q1 r H p m)⟩⟩,fun K=>?_,fun K=>?_⟩
         ·rw[N _ K L];exact q2 _
         ·rw[N _ K z];simp only[he];exact q3 _
        ·exact .no (fun K=>N _ K L) (fun K=>N _ K z)
       cases U:E.sort g with
       |true =>
        refine row Vg (fun S K Z=>(C S Z K).trans (hse g m U path true _ S.h _)) (by simp[cls,hc,m,U]) fun x hx1=>?_;unfold Vg
        cases x with
        |own id g =>
         have e3:=hx1 id (by simp[refs1,Ŏ]);simp only[e3]
         cases lkB h id with
         |row ty g' fz xs =>
          cases fz<;>simp only
          ·split
           ·split
            ·split
             ·exact⟨some (_,[(id,_)]),by simp[refs1,Ŏ],fun K=>rfl,fun K=>rfl⟩
             ·exact⟨none,by simp,fun K=>rfl,fun K=>rfl⟩
            ·exact⟨none,by simp,fun K=>rfl,fun K=>rfl⟩
           ·exact⟨none,by simp,fun K=>rfl,fun K=>rfl⟩
          ·exact⟨none,by simp,fun K=>rfl,fun K=>rfl⟩
         |_=>exact⟨none,by simp,fun K=>rfl,fun K=>rfl⟩
        |nils=>exact⟨some (_,[]),by simp,fun K=>rfl,fun K=>rfl⟩
        |_=>exact⟨none,by simp,fun K=>rfl,fun K=>rfl⟩
       |false =>
        cases hco:E.compact g with
        |true =>
         refine row qR (fun S K Z=>(C S Z K).trans (hce g m U hco path true _ S.h _)) (by simp[cls,hc,m,U,hco]) fun x hx1=>?_;unfold qR
         cases x with
         |own id g =>
          have e3:=hx1 id (by simp[refs1,Ŏ]);simp only[e3]
          cases lkB h id with
          |row ty g' fz xs =>
           cases fz<;>simp only
           ·split
            ·split
             ·split
              ·exact⟨some (_,[(id,_)]),by simp[refs1,Ŏ],fun K=>rfl,fun K=>rfl⟩
              ·exact⟨none,by simp,fun K=>rfl,fun K=>rfl⟩
             ·exact⟨none,by simp,fun K=>rfl,fun K=>rfl⟩
            ·exact⟨none,by simp,fun K=>rfl,fun K=>rfl⟩
           ·exact⟨none,by simp,fun K=>rfl,fun K=>rfl⟩
          |_=>exact⟨none,by simp,fun K=>rfl,fun K=>rfl⟩
         |nils=>exact⟨some (_,[]),by simp,fun K=>rfl,fun K=>rfl⟩
         |_=>exact⟨none,by simp,fun K=>rfl,fun K=>rfl⟩
        |false=>simp[cls,hc,m,U,hco] at J
      |some p =>
       have h1c:1<=cls E (.call ⟨.value (.func g),d,tys⟩):=by simp only[cls,hc,m]; cases E.fz g<;>simp
       have hsa:∀a∈d.toList.map (ev t),pO h h2 a:=fun a ha=>by
        obtain⟨x,G,rfl⟩:=dw.1 ha;exact hs h1c x (j x G)
       obtain⟨u,f1,f2,f3⟩:=WU (cs:=(d.toList.map (ev t)).flatMap nt) hlen fun c hcm id hi=>by
        obtain⟨a,ha,A⟩:=dA.1 hcm;refine(hsa a ha).one id ?_
        cases a<;>first
         |(simp only[nt,dh] at A; subst A; exact hi)
         |(simp only[nt,dh] at A; subst A; cases hi; done)
         |exact dA.2 ⟨c,A,hi⟩
       have f3':∀q∈u,∃x∈d.toList,q.1∈refs2 h (ev t x):=fun q hq=>by
        obtain⟨c,hcm,hi⟩:=f3 q hq;obtain⟨a,ha,A⟩:=dA.1 hcm;obtain⟨x,G,rfl⟩:=dw.1 ha;refine⟨x,G,?_⟩;simp only[refs2,de];left;generalize ev t x=a at A
        cases a<;>first
         |(simp only[nt,dh] at A; subst A; exact hi)
         |(simp only[nt,dh] at A; subst A; cases hi; done)
         |exact dA.2 ⟨c,A,hi⟩
       have V:∀(b:Bool) (h':CK Blk),FO h' p.ts (d.toList.map (ev t))=FO h p.ts (d.toList.map (ev t))->C8 h' ((d.toList.map (ev t)).flatMap nt)=aps u h'->∀(K:AV->CK Blk->BY ρ),
        Vq b p h' (d.toList.map (ev t)) K=(match FO h p.ts (d.toList.map (ev t)) with
        |some x=>(p.F x).bind fun y=>match Ny (aa8 p.rs y) with
         |true=>some (aa8 p.rs y,[])
         |false=>match (d.toList.map (ev t)).all (fun a=>!Ra a) with
          |true=>some (aa8 p.rs y,[])
          |false=>match b||!(d.toList.map (ev t)).all ahW with
           |true=>none
           |false=>some (aa8 p.rs y,u)
        |none=>none).bind fun r=>K r.1 (aps r.2 h'):=fun b h' ha N K=>by
        unfold Vq Å;rw[ha,N]
        cases FO h p.ts (d.toList.map (ev t)) with
        |none=>rfl
        |some x =>
         simp only
         cases p.F x with
         |none=>rfl
         |some y =>
          simp only[eS]
          cases Ny (aa8 p.rs y) with
          |true=>rfl
          |false=>cases(d.toList.map (ev t)).all (fun a=>!Ra a) with
           |true=>rfl
           |false=>cases b||!(d.toList.map (ev t)).all ahW<;>rfl
       refine⟨_,?_,fun K=>(C _ L K).trans ((k g p m path true _ h _).trans (V (true&&!E.fz g) h rfl f1 _)),fun K=>(C _ z K).trans (by simp only[he]; exact(k g p m path true _ h2 _).trans (V (true&&!E.fz g) h2 (U7 hsa) f2 _))⟩;intro r e q hq
       have hcase:r.2=[]\/(E.fz g=true/\r.2=u):=by
        cases hA:FO h p.ts (d.toList.map (ev t)) with
        |none=>rw[hA] at e; cases e
        |some x =>
         rw[hA] at e;simp only at e
         cases hF:p.F x with
         |none=>rw[hF] at e; cases e
         |some y =>
          rw[hF] at e;simp only[eS] at e
          split at e
          ·cases e; exact .inl rfl
          ·split at e
           ·cases e; exact .inl rfl
           ·split at e
            ·cases e
            ·rename_i hb;cases e;simp only[eD,fL,fk] at hb;exact .inr ⟨hb.1,rfl⟩
       rcases hcase with hz|⟨hfz,hz⟩
       ·rw[hz] at hq; cases hq
       ·rw[hz] at hq;obtain⟨x,G,hi⟩:=f3' q hq;exact .inr ⟨by simp[cls,hc,m,hfz],(qM h1c).2 ⟨x,j x G,hi⟩⟩
    |tmp s =>
     rw[I] at hx hs J
     obtain⟨g,hg⟩:∃g,E.hint s=some g:=by
      cases hh:E.hint s with
      |none=>simp[cls,hh] at J
      |some g=>exact⟨g,rfl⟩
     have hpf:(E.pure g).isSome=true/\E.fz g=false:=by
      simp only[cls,hg] at J
      split at J
      ·rename_i hb; simpa using hb
      ·omega
     obtain⟨hpg,hfz⟩:=hpf;obtain⟨p,m⟩:=gS.1 hpg
     have hcls:cls E (.call ⟨.value (.tmp s),d,tys⟩)=1:=by simp[cls,hg,m,hfz]
     have j:∀x∈d.toList,x∈(Op.call ⟨.value (.tmp s),d,tys⟩).operands.toList:=fun x G=>by simp[Op.operands,Call.operands]; exact .inr (by simpa using G)
     have hms:Operand.tmp s∈(Op.call ⟨.value (.tmp s),d,tys⟩).operands.toList:=by simp[Op.operands,Call.operands]
     have he:=N2 fun x G=>hx x (j x G)
     have W:UR E t (.call ⟨.value (.tmp s),d,tys⟩)=true:=by
      have h1:=L;unfold nO at h1;rw[I] at h1
      have hb1:Nat.ble 1 (cls E (.call ⟨.value (.tmp s),d,tys⟩))=true:=by rw[hcls]; rfl
      simp only[hb1,cW] at h1;exact h1.2
     simp only[UR,hg] at W
     split at W<;>try (cases W; done)
     rename_i g' T O hfn;simp only[cW,dC] at W;obtain⟨hgg,hna,hnb⟩:=W;have hgg:g'=g:=dq hgg;subst hgg;have hfn2:=(hx _ hms).trans hfn
     have C:∀(S:St),nO E S o.op=true->ev S.t (.tmp s)=.fn (.func g') T O->∀K,iE E call fid path true S nid o K=call path true g' (T++(d.toList.map (ev S.t)++O)) S.h fun v h=>K v {t:=S.t,h:=h}:=fun S Z hSf K=>by
      unfold iE;simp only[Z,Bool.not_true,Bool.and_false];rw[I];simp only[hSf,afN,Bool.and_false]
     rcases k with k|⟨k,hse,hce⟩
     ·exact .no (fun K=>by rw[C _ L hfn]; exact k _ _ _ _ _ _) (fun K=>by rw[C _ z hfn2]; exact k _ _ _ _ _ _)
     have hcap:∀v,(v∈T\/v∈O)->anF v=true->pO h h2 v:=fun v hv hn id hi=>by
      refine hs (by omega) _ hms id ?_;rw[hfn]
      have e1:Go.Am.refs1 v=ahq v:=by cases v<;>first|rfl|cases hn
      simp only[refs2,de,dA,e1] at hi ⊢
      have hsub:∀i,i∈ahq v->i∈Go.Am.refs1 (.fn (.func g') T O):=fun i hi=>by
       simp only[Go.Am.refs1,de,dA];exact hv.imp (fun h=>⟨v,h,hi⟩) fun h=>⟨v,h,hi⟩
      rcases hi with hi|⟨i,hi,q⟩
      ·exact .inl (hsub _ hi)
      ·exact .inr ⟨i,hsub _ hi,q⟩
     have hsa:∀a∈T++(d.toList.map (ev t)++O),pO h h2 a:=fun a ha=>by
      rcases de.1 ha with ha|ha
      ·exact hcap a (.inl ha) (hna a ha)
      ·rcases de.1 ha with ha|ha
       ·obtain⟨x,G,rfl⟩:=dw.1 ha;exact hs (by omega) x (j x G)
       ·exact hcap a (.inr ha) (hnb a ha)
     have V:∀(h':CK Blk),FO h' p.ts (T++(d.toList.map (ev t)++O))=FO h p.ts (T++(d.toList.map (ev t)++O))->∀(K:AV->CK Blk->BY ρ),
      Vq (true&&!E.fz g') p h' (T++(d.toList.map (ev t)++O)) K=(match FO h p.ts (T++(d.toList.map (ev t)++O)) with
      |some x=>(p.F x).bind fun y=>match Ny (aa8 p.rs y) with
       |true=>some (aa8 p.rs y,([]:CK (Nat×Blk)))
       |false=>match (T++(d.toList.map (ev t)++O)).all (fun a=>!Ra a) with
        |true=>some (aa8 p.rs y,[])
        |false=>none
      |none=>none).bind fun r=>K r.1 (aps r.2 h'):=fun h' ha K=>by
      unfold Vq Å;rw[ha,hfz]
      cases FO h p.ts (T++(d.toList.map (ev t)++O)) with
      |none=>rfl
      |some x =>
       simp only
       cases p.F x with
       |none=>rfl
       |some y =>
        simp only[eS]
        cases Ny (aa8 p.rs y) with
        |true=>rfl
        |false=>cases(T++(d.toList.map (ev t)++O)).all (fun a=>!Ra a)<;>rfl
     refine⟨_,?_,fun K=>(C _ L hfn K).trans ((k g' p m path true _ h _).trans (V h rfl _)),fun K=>(C _ z hfn2 K).trans (by simp only[he]; exact(k g' p m path true _ h2 _).trans (V h2 (U7 hsa) _))⟩;intro r e q hq;exfalso
     cases hA:FO h p.ts (T++(d.toList.map (ev t)++O)) with
     |none=>rw[hA] at e; cases e
     |some x =>
      rw[hA] at e;simp only at e
      cases hF:p.F x with
      |none=>rw[hF] at e; cases e
      |some y =>
       rw[hF] at e;simp only[eS] at e
       split at e
       ·cases e; cases hq
       ·split at e<;>cases e
        cases hq
    |_=>rw[I] at J; simp[cls] at J
   |_=>exact I▸plain fun _ _ _ N=>by rw[I] at N; cases N
  |_=>exact I▸plain fun _ _ _ N=>by rw[I] at N; cases N
def anc {l:CK Operand} (c:∀s∈S9 l,lk t2 s=lk t s):∀x∈l,ev t2 x=ev t x:=by
 induction l with
 |nil=>intro x b; cases b
 |cons y l d =>
  intro x b;rcases df.1 b with rfl|b
  ·cases x with
   |tmp i=>exact c i (by simp[S9])
   |_=>rfl
  ·refine d (fun s e=>c s ?_) x b
   cases y<;>simp[S9,e]
def acQ:∀(t:CK AV) {d c:Nat} (v b:AV),d≠c->upd (upd t d v) c b=upd (upd t c b) d v
 |[],_,_,_,_,_=>rfl
 |_::_,0,0,_,_,h=>absurd rfl h
 |_::_,0,_+1,_,_,_=>rfl
 |_::_,_+1,0,_,_,_=>rfl
 |x::t,d+1,c+1,v,b,h=>by simp only[upd]; rw[acQ t v b (by omega)]
def XO:∀(t:CK Blk) {d c:Nat} (v b:Blk),d≠c->Đ (Đ t d v) c b=Đ (Đ t c b) d v
 |[],_,_,_,_,_=>rfl
 |_::_,0,0,_,_,h=>absurd rfl h
 |_::_,0,_+1,_,_,_=>rfl
 |_::_,_+1,0,_,_,_=>rfl
 |x::t,d+1,c+1,v,b,h=>by simp only[Đ]; rw[XO t v b (by omega)]
def No {c b:BY Nat} (hd:∀x,c=some x->b≠some x) (e d:AV):Ă (Ă t c e) b d=Ă (Ă t b d) c e:=by
 cases c with
 |none=>rfl
 |some x=>cases b with
  |none=>rfl
  |some y=>exact acQ t e d fun h=>hd x rfl (by rw[h])
def zD {d:BY Nat} {s:Nat} (hd:d≠some s) (v:AV):lk (Ă t d v) s=lk t s:=by
 cases d with
 |none=>rfl
 |some x =>
  simp only[Ă,aiC];rw[if_neg];rintro⟨rfl,_⟩;exact hd rfl
def aeN:∀{u v:CK (Nat×Blk)} {h:CK Blk},(∀p∈u,∀q∈v,p.1≠q.1)->aps v (aps u h)=aps u (aps v h)
 |[],_,_,_=>rfl
 |p::u,v,h,c=>by
  show aps v (aps u (Đ h p.1 p.2))=aps u (Đ (aps v h) p.1 p.2);rw[aeN fun q b=>c q (by simp[b])];congr 1
  have:∀(v:CK (Nat×Blk)) (h:CK Blk),(∀q∈v,p.1≠q.1)->aps v (Đ h p.1 p.2)=Đ (aps v h) p.1 p.2:=by
   intro v
   induction v with
   |nil=>intro h _; rfl
   |cons q v d =>
    intro h b;show aps v (Đ (Đ h p.1 p.2) q.1 q.2)=Đ (aps v (Đ h q.1 q.2)) p.1 p.2;rw[XO _ _ _ (b q (by simp)),d _ fun r e=>b r (by simp[e])]
  exact this v h (c p (by simp))
def Α (all:CK Oper) (o:Oper) (t:CK AV):BY Bool :=
 match o.guard with
 |none=>some true
 |some (j,want)=>match lk t (qL all j) with
  |.bool b=>some (b==want)
  |.und=>some false
  |_=>none
def zr (E:Env ρ) (all:CK Oper) (o:Oper) (S:St):CK Nat :=
 match Α all o S.t with
 |some true=>C9 E S o.op
 |_=>[]
def zh (E:Env ρ) (call:CK Nat->Bool->Nat->CK AV->CK Blk->(AV->CK Blk->BY ρ)->BY ρ) (fid:Nat) (path:CK Nat) (all:CK Oper) (b:CK Nat) (acc:CK (Nat×CK Nat)) (i nid:Nat) (o:Oper) (S:St) (K:CK Nat->St->BY ρ):BY ρ :=
 match Α all o S.t==some true&&!chk E all b acc i (C9 E S o.op) with
 |true=>none
 |false=>rA E call fid path true all i nid o S (K (zr E all o S))
def ahM {E:Env ρ} {call:CK Nat->Bool->Nat->CK AV->CK Blk->(AV->CK Blk->BY ρ)->BY ρ} {fid:Nat} {path:CK Nat} {all:CK Oper} {c:CK Nat} {o:Oper} {os:CK Oper} {i nid:Nat} {acc:CK (Nat×CK Nat)} {S:St} {K:St->BY ρ} :
 ahN E call fid path all c (o::os) i nid acc S K=zh E call fid path all c acc i nid o S fun F m=>ahN E call fid path all c os (i+1) (bif Ę E.clone o.op then nid+1 else nid) ((i,F)::acc) m K:=by
 have f:∀d b,lk S.t d=.bool b->({t:=upd S.t d (.bool b),h:=S.h}:St)=S:=fun d b hb=>by rw[<-hb,FV]
 have e:∀d b,lk S.t d=.bool b->upd S.t d (.bool b)=S.t:=fun d b hb=>by rw[<-hb,FV]
 simp only[ahN,zh,rA,zr,Α]
 cases o.guard with
 |none=>cases chk E all c acc i (C9 E S o.op)<;>rfl
 |some g =>
  obtain⟨j,k⟩:=g;simp only
  cases hb:lk S.t (qL all j)<;>try rfl
  rename_i b;have l:=f _ b hb;have h2:=e _ b hb
  cases b<;>cases k<;>simp only[l,h2]<;>first
   |rfl
   |(cases chk E all c acc i (C9 E S o.op)<;>rfl)
def Ix {E:Env ρ} {o:Op} (f:∀x∈o.operands.toList,ev t2 x=ev t x) (i:1<=cls E o->∀x∈o.operands.toList,pO h h2 (ev t x)):C9 E {t:=t2,h:=h2} o=C9 E {t:=t,h:=h} o:=by
 unfold C9
 split
 ·rename_i j;have c:1<=cls E o:=eW j
  have:∀l:CK Operand,(∀x∈l,x∈o.operands.toList)->(l.flatMap fun x=>refs2 h2 (ev t2 x))=l.flatMap fun x=>refs2 h (ev t x):=by
   intro l
   induction l with
   |nil=>intro _; rfl
   |cons x l d =>
    intro b;simp only[dz];rw[f x (b x (by simp)),(i c x (b x (by simp))).refs,d fun y e=>b y (by simp[e])]
  exact this _ fun _ h=>h
 ·rfl
def KL {all:CK Oper} {o:Oper} (b:∀s∈je all o,lk t2 s=lk t s):∀x∈o.op.operands.toList,ev t2 x=ev t x:=anc fun s c=>b s (by simp only[je,de]; exact .inr c)
def jC {all:CK Oper} {o:Oper} (c:∀s∈je all o,lk t2 s=lk t s):Α all o t2=Α all o t:=by
 unfold Α
 cases d:o.guard with
 |none=>rfl
 |some g =>
  obtain⟨j,b⟩:=g;simp only;rw[c _ (by simp[je,d])]
def akM {E:Env ρ} {o:Op} (d:1<=cls E o) (b:nO E {t:=t,h:=h} o=true):∀id∈C9 E {t:=t,h:=h} o,lkB h id≠.dead:=fun id hi hd=>by
 obtain⟨x,e,hi⟩:=(qM d).1 hi;unfold nO at b;have c:Nat.ble 1 (cls E o)=true:=Nat.ble_eq_true_of_le d;simp only[c,Bool.and_eq_true,List.all_eq_true] at b;have:=b.1 x e id hi;rw[hd] at this;cases this
def Mw {E:Env ρ} {call:CK Nat->Bool->Nat->CK AV->CK Blk->(AV->CK Blk->BY ρ)->BY ρ} {fid:Nat} {path:CK Nat} {all:CK Oper} {i nid:Nat} {o:Oper} (I:ρ)
 (A:akz E call) (C:cls E o.op<=2) (q:h2.length=h.length) (G:∀s∈je all o,lk t2 s=lk t s)
 (L:Α all o t=some true->1<=cls E o.op->∀x∈o.op.operands.toList,pO h h2 (ev t x)) :
 ∃φ:BY (AV×CK (Nat×Blk)),(∀r,φ=some r->∀p∈r.2,(p.1=nid/\Ę E.clone o.op=true)\/(cls E o.op=2/\p.1∈zr E all o {t:=t,h:=h})) /\
  (∀r,φ=some r->∀id∈zr E all o {t:=t,h:=h},lkB h id≠.dead) /\
  (∀K,rA E call fid path true all i nid o {t:=t,h:=h} K=φ.bind fun r=>K {t:=Ă t o.dst r.1,h:=aps r.2 h}) /\
  ∀K,rA E call fid path true all i nid o {t:=t2,h:=h2} K=φ.bind fun r=>K {t:=Ă t2 o.dst r.1,h:=aps r.2 h2}:=by
 have J:=KL (t:=t) (t2:=t2) (o:=o) G;have d:=jC (t:=t) (t2:=t2) (o:=o) G
 cases e:Α all o t with
 |none =>
  rw[e] at d
  have:∀(S:St),Α all o S.t=none->∀K,rA E call fid path true all i nid o S K=none:=fun S c K=>by
   unfold Α at c;unfold rA
   cases k:o.guard with
   |none=>rw[k] at c; cases c
   |some g =>
    obtain⟨j,f⟩:=g;rw[k] at c;simp only at c ⊢
    cases hb:lk S.t (qL all j)<;>rw[hb] at c<;>first|rfl|cases c
  exact⟨none,by simp,by simp,fun K=>this _ e K,fun K=>this _ d K⟩
 |some b =>
  cases b with
  |false =>
   rw[e] at d
   have:∀(S:St),Α all o S.t=some false->∀K,rA E call fid path true all i nid o S K=K {t:=Ă S.t o.dst .und,h:=S.h}:=fun S c K=>by
    unfold Α at c;unfold rA
    cases k:o.guard with
    |none=>rw[k] at c; cases c
    |some g =>
     obtain⟨j,f⟩:=g;rw[k] at c;simp only at c ⊢
     cases hb:lk S.t (qL all j)<;>rw[hb] at c<;>first|rfl|(cases c; done)|skip
     simp only[Option.some.injEq] at c ⊢;rw[c]
   refine⟨some (.und,[]),?_,?_,fun K=>this _ e K,fun K=>this _ d K⟩
   ·intro r l p B;cases l;cases B
   ·intro r l id hi;simp only[zr,e] at hi;cases hi
  |true =>
   rw[e] at d
   have m:∀(S:St),Α all o S.t=some true->∀K,rA E call fid path true all i nid o S K=iE E call fid (path++[i]) true S nid o fun v S=>K {t:=Ă S.t o.dst v,h:=S.h}:=fun S c K=>by
    unfold Α at c;unfold rA
    cases k:o.guard with
    |none=>rfl
    |some g =>
     obtain⟨j,f⟩:=g;rw[k] at c;simp only at c ⊢
     cases hb:lk S.t (qL all j)<;>rw[hb] at c<;>first|(cases c; done)|skip
     simp only[Option.some.injEq] at c ⊢;rw[c]
   obtain⟨φ,R,y,O⟩:=anq (fid:=fid) (path:=path++[i]) (nid:=nid) A C q J (L e)
   have u:zr E all o {t:=t,h:=h}=C9 E {t:=t,h:=h} o.op:=by simp only[zr,e]
   refine⟨φ,fun r l p B=>?_,fun r l id hi=>?_,fun K=>by rw[m _ e,y],fun K=>by rw[m _ d,O]⟩
   ·rw[u]; exact R r l p B
   ·rw[u] at hi
    by_cases N:1<=cls E o.op
    ·refine akM N ?_ id hi
     cases z:nO E {t:=t,h:=h} o.op with
     |true=>rfl
     |false =>
      exfalso;have H:=y fun v S=>some I;rw[l] at H;simp[iE,z] at H
    ·rw[Iw (by omega)] at hi;cases hi
def BD:∀{l m:CK Nat},disj l m=true↔∀x∈l,x∉m
 |[],m=>by simp[disj]
 |x::l,m=>by
  simp only[disj,cW,eJ,dI,df,forall_eq_or_imp,BD (l:=l)];refine and_congr_left fun _=>⟨fun h c=>h x c (Nat.beq_refl x),fun h y b d=>?_⟩;have:=dq d;subst this;exact h b
structure amC (E:Env ρ) (all:CK Oper) (bef:CK Nat) (ia ib:Nat) (a b:Oper):Prop where
 ha:all[ia]?=some a
 hb:all[ib]?=some b
 a3:cls E a.op<=2
 b3:cls E b.op<=2\/cls E a.op=0
 rb:∀s∈je all b,a.dst≠some s
 ra:∀s∈je all a,b.dst≠some s
 dd:∀x,a.dst=some x->b.dst≠some x
 bab:(bef.getD ib 0).testBit ia=false
 bba:(bef.getD ia 0).testBit ib=false
def ajv (E:Env ρ) (o:Op):cls E o<=3:=by
 cases o with
 |call c =>
  obtain⟨f,d,tys⟩:=c
  cases f with
  |value f=>cases f<;>simp only[cls]<;>(repeat' split)<;>omega
  |builtin b=>cases b<;>simp[cls]
  |_=>simp[cls]
 |_=>simp[cls]
def ack {E:Env ρ} {all:CK Oper} {c:CK Nat} {ia ib:Nat} {a b:Oper} (e:alS E all a b=false) (ha:all[ia]?=some a) (hb:all[ib]?=some b) (r:(c.getD ib 0).testBit ia=false) (h2:(c.getD ia 0).testBit ib=false):amC E all c ia ib a b:=by
 unfold alS at e;simp only[Bool.or_eq_false_iff,beq_eq_false_iff_ne] at e;obtain⟨⟨⟨⟨_,y,i⟩,l⟩,k⟩,j⟩:=e;have v:=ajv E a.op;have u:=ajv E b.op
 have f:cls E b.op<=2\/cls E a.op=0:=by
  by_cases q:cls E b.op=3
  ·rw[q] at i;right
   by_cases p:1<=cls E a.op
   ·rw[Nat.ble_eq_true_of_le p] at i; cases i
   ·omega
  ·left; omega
 refine⟨ha,hb,by omega,f,fun s d hd=>?_,fun s d hd=>?_,fun x o m=>?_,r,h2⟩
 ·rw[hd] at l;simp[alh,d] at l
 ·rw[hd] at k;simp[alh,d] at k
 ·rw[o,m] at j;simp at j
def F8 {E:Env ρ} {all:CK Oper} {c:CK Nat} {j i:Nat} {a b:Oper} {e f:CK Nat} (d:F9 E all c j i e f=true) (ha:all[j]?=some a) (hb:all[i]?=some b) (l:(c.getD j 0).testBit i=false) (h2:(c.getD i 0).testBit j=false)
 (k:EC E a.op b.op=true):∀x∈e,x∉f:=by
 unfold F9 at d;simp only[ha,hb,k,l,h2,Bool.not_true,Bool.false_or] at d;exact BD.1 d
def acl {E:Env ρ} {a b:Op}:EC E a b=EC E b a:=by
 unfold EC; cases cls E a==2<;>cases cls E b==2<;>cases Nat.ble 1 (cls E a)<;>cases Nat.ble 1 (cls E b)<;>rfl
def abp {E:Env ρ} {all:CK Oper} {d:CK Nat} {j i:Nat} {e f:CK Nat} (c:F9 E all d j i e f=true):F9 E all d i j f e=true:=by
 unfold F9 at c ⊢
 cases ha:all[j]? with
 |none=>rw[ha] at c; cases c
 |some a=>cases hb:all[i]? with
  |none=>rw[ha,hb] at c; cases c
  |some b =>
   rw[ha,hb] at c;simp only[iw,eJ] at c ⊢;rw[acl];rcases c with c|c|c|c
   ·exact .inl c
   ·exact .inr (.inr (.inl c))
   ·exact .inr (.inl c)
   ·exact .inr (.inr (.inr (BD.2 fun x l k=>BD.1 c x k l)))
def rr {E:Env ρ} {a b:Op}:EC E a b=true↔(cls E a=2/\1<=cls E b)\/(1<=cls E a/\cls E b=2):=by
 unfold EC;simp only[Bool.or_eq_true,Bool.and_eq_true,beq_iff_eq,Nat.ble_eq]
def qS {E:Env ρ} {all:CK Oper} {b:CK Nat} {acc:CK (Nat×CK Nat)} {p:Nat×CK Nat} {i:Nat} {F:CK Nat}:chk E all b (p::acc) i F=(F9 E all b p.1 i p.2 F&&chk E all b acc i F):=by
 simp[chk]
def Jn {E:Env ρ} {all:CK Oper} {c:CK Nat} {j i:Nat} {a b:Oper} {d:CK Nat} (ha:all[j]?=some a) (hb:all[i]?=some b):F9 E all c j i d []=true:=by
 unfold F9;simp only[ha,hb,Bool.or_eq_true];exact .inr (.inr (.inr (BD.2 fun x _=>by simp)))
def Ql {E:Env ρ} {all:CK Oper} {o:Oper} (c:∀s∈je all o,lk t2 s=lk t s) (e:Α all o t=some true->1<=cls E o.op->∀x∈o.op.operands.toList,pO h h2 (ev t x)):zr E all o {t:=t2,h:=h2}=zr E all o {t:=t,h:=h}:=by
 unfold zr;simp only[jC (t:=t) (t2:=t2) c]
 cases d:Α all o t with
 |none=>rfl
 |some b=>cases b with
  |false=>rfl
  |true=>exact Ix (KL c) (e d)
def af6 {E:Env ρ} {o:Op} (h:cls E o=0):Ę E.clone o=false:=by
 cases o with
 |call c =>
  obtain⟨f,d,tys⟩:=c
  cases f with
  |value f=>cases f<;>simp only[cls] at h<;>(repeat' split at h)<;>first|omega|rfl|(cases h; done)
  |builtin b=>cases b<;>simp[cls] at h
  |_=>simp[cls] at h
 |_=>first|rfl|(simp[cls] at h; done)
def ajw {E:Env ρ} {o:Op} (h:cls E o=0):UB o=false:=by
 cases o with
 |call c =>
  obtain⟨f,b,tys⟩:=c
  cases f with
  |value f=>cases f<;>simp only[cls] at h<;>(repeat' split at h)<;>first|omega|(cases h; done)
  |_=>rfl
 |_=>rfl
def ak2 {E:Env ρ} {call:CK Nat->Bool->Nat->CK AV->CK Blk->(AV->CK Blk->BY ρ)->BY ρ} {fid:Nat} {path:CK Nat} {nid:Nat} {o:Oper} (d:cls E o.op=0) :
 ∃φ:BY AV,∀(t2:CK AV) (h2:CK Blk),(∀x∈o.op.operands.toList,ev t2 x=ev t x)->∀K,iE E call fid path true {t:=t2,h:=h2} nid o K=φ.bind fun v=>K v {t:=t2,h:=h2}:=by
 have b:=ajw d;have k:=af6 d
 have q:∀S:St,∀K,iE E call fid path true S nid o K=opK E.P S nid false o.op K:=fun S K=>by
  have p:nO E S o.op=true:=by
   unfold nO
   have:Nat.ble 1 (cls E o.op)=false:=by rw[d]; rfl
   rw[this]
  have j:SU E true fid o=false:=by
   unfold SU
   cases r:o.op<;>first|rfl|(rw[r] at d; simp[cls] at d; done)
  unfold iE;simp only[p,j,Bool.not_true,Bool.and_false]
  cases i:o.op with
  |call c =>
   obtain⟨f,l,tys⟩:=c;rw[i] at b
   cases f with
   |value f=>cases b
   |_=>rfl
  |_=>rfl
 refine⟨opK E.P {t:=t,h:=[]} nid false o.op fun v _=>some v,fun t2 h2 m K=>?_⟩;rw[q,VI]
 have:=amI (P:=E.P) (E:=E) (o:=o.op) (nid:=nid) (σ:=AV) (σ2:=AV×St) (t:=t) (t2:=t2) (h:=[]) (h2:=h2) (K:=fun v _=>some v) (K2:=fun v S=>some (v,S)) (R:=fun x y=>y=x.map fun v=>(v,({t:=t2,h:=h2}:St)))
  rfl (by omega) b m (fun u=>by omega) fun v s e=>by
   cases s with
   |none=>rfl
   |some B=>rw[k] at e; exact absurd (e rfl) (by simp)
 unfold opR;rw[this]
 cases opK E.P {t:=t,h:=[]} nid false o.op (fun v _=>some v)<;>rfl
def aha {E:Env ρ} {call:CK Nat->Bool->Nat->CK AV->CK Blk->(AV->CK Blk->BY ρ)->BY ρ} {fid:Nat} {path:CK Nat} {all:CK Oper} {i nid:Nat} {o:Oper} (m:cls E o.op=0) (t:CK AV) :
 ∃φ:BY AV,∀(t2:CK AV) (h2:CK Blk),(∀s∈je all o,lk t2 s=lk t s)->∀K,rA E call fid path true all i nid o {t:=t2,h:=h2} K=φ.bind fun v=>K {t:=Ă t2 o.dst v,h:=h2}:=by
 obtain⟨φ,k⟩:=ak2 (call:=call) (fid:=fid) (path:=path++[i]) (nid:=nid) (t:=t) m
 cases l:Α all o t with
 |none =>
  refine⟨none,fun t2 h2 f K=>?_⟩;have c:=(jC (t:=t) (t2:=t2) f).trans l;unfold Α at c;unfold rA
  cases e:o.guard with
  |none=>rw[e] at c; cases c
  |some g =>
   obtain⟨j,d⟩:=g;rw[e] at c;simp only at c ⊢
   cases hb:lk t2 (qL all j)<;>rw[hb] at c<;>first|rfl|cases c
 |some b =>
  cases b with
  |false =>
   refine⟨some .und,fun t2 h2 f K=>?_⟩;have c:=(jC (t:=t) (t2:=t2) f).trans l;unfold Α at c;unfold rA
   cases e:o.guard with
   |none=>rw[e] at c; cases c
   |some g =>
    obtain⟨j,d⟩:=g;rw[e] at c;simp only at c ⊢
    cases hb:lk t2 (qL all j)<;>rw[hb] at c<;>first|rfl|(cases c; done)|skip
    simp only[Option.some.injEq] at c ⊢;rw[c];rfl
  |true =>
   refine⟨φ,fun t2 h2 f K=>?_⟩;have c:=(jC (t:=t) (t2:=t2) f).trans l;have p:=k t2 h2 (KL f);unfold Α at c;unfold rA
   cases e:o.guard with
   |none=>exact p _
   |some g =>
    obtain⟨j,d⟩:=g;rw[e] at c;simp only at c ⊢
    cases hb:lk t2 (qL all j)<;>rw[hb] at c<;>first|(cases c; done)|skip
    simp only[Option.some.injEq] at c ⊢;rw[c];exact p _
def ahn {E:Env ρ} {call:CK Nat->Bool->Nat->CK AV->CK Blk->(AV->CK Blk->BY ρ)->BY ρ} {fid:Nat} {path:CK Nat} {nid:Nat} {o:Oper} (d:cls E o.op=3) (k:∀x∈o.op.operands.toList,ev t2 x=ev t x) (K:AV->St->BY ρ) :
 iE E call fid path true {t:=t2,h:=h} nid o K=iE E call fid path true {t:=t,h:=h} nid o fun v S=>K v {t:=t2,h:=S.h}:=by
 have m:nO E {t:=t2,h:=h} o.op=nO E {t:=t,h:=h} o.op:=QF k fun _ _ _ _ _=>rfl;unfold iE;rw[m]
 cases r:o.op with
 |call c =>
  obtain⟨f,e,tys⟩:=c;rw[r] at k d
  cases f with
  |value f =>
   have u:ev t2 f=ev t f:=k f (by simp[Op.operands,Call.operands]);have i:∀x∈e.toList,ev t2 x=ev t x:=fun x s=>k x (by simp[Op.operands,Call.operands]; exact .inr (by simpa using s));have z:=N2 i;simp only[u,z]
   cases j:ev t f with
   |fn g fa fb =>
    cases g with
    |func g =>
     simp only
     cases p:E.clone g&&afN f with
     |false=>rfl
     |true =>
      exfalso;rw[cW] at p
      cases f with
      |func g' =>
       have:g'=g:=by simp only[ev] at j; cases j; rfl
       subst this;simp[cls,p.1] at d
      |_=>simp[afN] at p
    |_=>rfl
   |yld =>
    simp only;rcases q:e.toList with _|⟨x,_|⟨y,l⟩⟩
    ·rfl
    ·simp only; rw[i x (by rw[q]; simp)]
    ·rfl
   |_=>rfl
  |builtin b=>cases b<;>simp[cls] at d
  |_=>rfl
 |_=>rw[r] at d; simp[cls] at d
def ae5 {E:Env ρ} {call:CK Nat->Bool->Nat->CK AV->CK Blk->(AV->CK Blk->BY ρ)->BY ρ} {fid:Nat} {path:CK Nat} {all:CK Oper} {i nid:Nat} {o:Oper} (l:cls E o.op=3) (e:∀s∈je all o,lk t2 s=lk t s) :
 ∃Ψ:(AV->CK Blk->BY ρ)->BY ρ,(∀K,rA E call fid path true all i nid o {t:=t,h:=h} K=Ψ fun v h'=>K {t:=Ă t o.dst v,h:=h'})/\∀K,rA E call fid path true all i nid o {t:=t2,h:=h} K=Ψ fun v h'=>K {t:=Ă t2 o.dst v,h:=h'}:=by
 have key:∀c:CK AV,(∀s∈je all o,lk c s=lk t s)->∀K,rA E call fid path true all i nid o {t:=c,h:=h} K=(fun k:AV->CK Blk->BY ρ=>match Α all o t with
  |none=>none
  |some false=>k .und h
  |some true=>iE E call fid (path++[i]) true {t:=t,h:=h} nid o fun v S=>k v S.h) fun v h'=>K {t:=Ă c o.dst v,h:=h'}:=fun c e K=>by
  have f:=jC (t:=t) (t2:=c) (o:=o) e;have m:=ahn (call:=call) (fid:=fid) (path:=path++[i]) (nid:=nid) (h:=h) l (KL e);rw[<-f];unfold Α rA
  cases q:o.guard with
  |none=>exact m _
  |some g =>
   obtain⟨j,d⟩:=g;simp only
   cases hb:lk c (qL all j) with
   |bool b =>
    simp only
    cases p:b==d with
    |true=>exact m _
    |false=>rfl
   |_=>rfl
 exact⟨fun k:AV->CK Blk->BY ρ=>match Α all o t with
  |none=>none
  |some false=>k .und h
  |some true=>iE E call fid (path++[i]) true {t:=t,h:=h} nid o fun v S=>k v S.h,key t fun _ _=>rfl,key t2 e⟩
def aag {E:Env ρ} {all:CK Oper} {o:Oper} (b:cls E o.op=0) (S:St):zr E all o S=[]:=by
 unfold zr
 split
 ·exact Iw b
 ·rfl
def swap0 {E:Env ρ} {call:CK Nat->Bool->Nat->CK AV->CK Blk->(AV->CK Blk->BY ρ)->BY ρ} {fid:Nat} {path:CK Nat} {all:CK Oper} {d:CK Nat} {acc:CK (Nat×CK Nat)} {ia na ib nb:Nat} {a b:Oper} {K:CK Nat->CK Nat->St->BY ρ} {r:ρ}
 (p:amC E all d ia ib a b) (ha:cls E a.op=0) (hb:cls E b.op=3)
 (e:zh E call fid path all d acc ia na a {t:=t,h:=h} (fun u S=>zh E call fid path all d ((ia,u)::acc) ib nb b S (K u))=some r) :
 zh E call fid path all d acc ib nb b {t:=t,h:=h} (fun G S=>zh E call fid path all d ((ib,G)::acc) ia na a S fun u=>K u G)=some r:=by
 obtain⟨φ,m⟩:=aha (call:=call) (fid:=fid) (path:=path) (all:=all) (i:=ia) (nid:=na) ha t;unfold zh at e
 split at e<;>try (cases e; done)
 rename_i j;rw[m t h fun _ _=>rfl] at e;obtain⟨q,H,l⟩:=iW e;simp only at l
 split at l<;>try (cases l; done)
 rename_i c;have f:∀s∈je all b,lk (Ă t a.dst q) s=lk t s:=fun s A=>zD (p.rb s A) _;obtain⟨Ψ,J,I⟩:=ae5 (call:=call) (fid:=fid) (path:=path) (all:=all) (i:=ib) (nid:=nb) (h:=h) hb f;rw[I] at l;have y:Α all b (Ă t a.dst q)=Α all b t:=jC f;have B:C9 E {t:=Ă t a.dst q,h:=h} b.op=C9 E {t:=t,h:=h} b.op:=Ix (KL f) fun _ _ _ _ _=>rfl;have C:zr E all b {t:=Ă t a.dst q,h:=h}=zr E all b {t:=t,h:=h}:=Ql f fun _ _ _ _ _ _=>rfl;unfold zh
 split
 ·rename_i x;exfalso;rw[B,y,qS] at c
  cases N:Α all b t==some true<;>rw[N] at x c<;>simp only[gZ,eD,eJ,fk,dp] at x c
  rw[x,Bool.and_false] at c;cases c
 ·rw[J];rw[<-l];congr 1;funext v h';have o:∀s∈je all a,lk (Ă t b.dst v) s=lk t s:=fun s A=>zD (p.ra s A) _;have z:Α all a (Ă t b.dst v)=Α all a t:=jC o
  have k:¬((Α all a (Ă t b.dst v)==some true&&!chk E all d ((ib,zr E all b {t:=t,h:=h})::acc) ia (C9 E {t:=Ă t b.dst v,h:=h'} a.op))=true):=by
   rw[z,Iw ha,qS,Jn p.hb p.ha,eD];rw[Iw ha] at j;exact eE.1 j
  dsimp only
  split
  ·rename_i L; exact absurd L k
  ·rw[m _ _ o,H,eS,aag ha,aag ha,C,No p.dd]
def swap {E:Env ρ} {call:CK Nat->Bool->Nat->CK AV->CK Blk->(AV->CK Blk->BY ρ)->BY ρ} {fid:Nat} {path:CK Nat} {all:CK Oper} {m:CK Nat} {acc:CK (Nat×CK Nat)} {ia na ib nb:Nat} {a b:Oper} {K:CK Nat->CK Nat->St->BY ρ} {r:ρ}
 (hpe:akz E call) (j:amC E all m ia ib a b) (hbd:Ę E.clone b.op=true->lkB h nb=.dead) (hn:Ę E.clone a.op=true->Ę E.clone b.op=true->na≠nb)
 (hfar1:Ę E.clone a.op=true->∀x∈b.op.operands.toList,na∉refs1 (ev t x))
 (hfar:1<=cls E b.op->Ę E.clone a.op=true->(∀p∈acc,∀c,all[p.1]?=some c->EC E c.op b.op=true->(m.getD ib 0).testBit p.1=false->(m.getD p.1 0).testBit ib=false->∀x∈b.op.operands.toList,∀id∈refs1 (ev t x),id∉p.2)->∀x∈b.op.operands.toList,na∉refs2 h (ev t x))
 (e:zh E call fid path all m acc ia na a {t:=t,h:=h} (fun Fa S=>zh E call fid path all m ((ia,Fa)::acc) ib nb b S (K Fa))=some r) :
 zh E call fid path all m acc ib nb b {t:=t,h:=h} (fun Fb S=>zh E call fid path all m ((ib,Fb)::acc) ia na a S fun Fa=>K Fa Fb)=some r:=by
 by_cases hb3:cls E b.op<=2
 case neg =>
  have:=ajv E b.op;exact swap0 j (j.b3.resolve_left hb3) (by omega) e
 -- what a does
 obtain⟨φa,a0,a1,a2,_⟩:=Mw (t:=t) (t2:=t) (h:=h) (h2:=h) (call:=call) (fid:=fid) (path:=path) (i:=ia) (nid:=na) (all:=all) r hpe j.a3 rfl (fun _ _=>rfl) (fun _ _ _ _ _ _=>rfl);unfold zh at e
 split at e<;>try (cases e; done)
 rename_i L;rw[a2] at e;obtain⟨⟨va,W⟩,q1,q2⟩:=iW e;simp only at q2
 split at q2<;>try (cases q2; done)
 rename_i d;have hal1:=a1 _ q1;have hea:=a0 _ q1;simp only at hea
 -- b looks at the same
 have G:∀s∈je all b,lk (Ă t a.dst va) s=lk t s:=fun s hs=>zD (j.rb s hs) _;have htb':∀s∈je all b,lk t s=lk (Ă t a.dst va) s:=fun s hs=>(G s hs).symm;have O:=KL G;have hwb:Α all b (Ă t a.dst va)=Α all b t:=jC G
 have C:1<=cls E b.op->Α all b t=some true->chk E all m ((ia,zr E all a {t:=t,h:=h})::acc) ib (C9 E {t:=Ă t a.dst va,h:=aps W h} b.op)=true:=fun _ f=>by
  rw[hwb,f] at d;simpa using d
 have hone:Α all b t=some true->1<=cls E b.op->∀x∈b.op.operands.toList,∀id∈refs1 (ev t x),lkB (aps W h) id=lkB h id:=fun f u x z id hi=>by
  refine U8 fun p V k=>?_;rcases hea p V with⟨h2,o⟩|⟨h2,o⟩
  ·exact hfar1 o x z (by rw[<-h2,k]; exact hi)
  ·have H:=C u f;rw[qS,cW] at H;refine F8 H.1 j.ha j.hb j.bba j.bab (rr.2 (.inl ⟨h2,u⟩)) p.1 o ?_;rw[k];refine(qM u).2 ⟨x,z,?_⟩;rw[O x z];simp only[refs2,de];exact .inl hi
 have hrefs:Α all b t=some true->1<=cls E b.op->∀x∈b.op.operands.toList,refs2 (aps W h) (ev t x)=refs2 h (ev t x):=fun f u x z=>by
  have:∀(l:CK Nat),(∀id∈l,lkB (aps W h) id=lkB h id)->(l.flatMap fun id=>(QP (lkB (aps W h) id)).flatMap Ŏ)=l.flatMap fun id=>(QP (lkB h id)).flatMap Ŏ:=by
   intro l
   induction l with
   |nil=>intro _; rfl
   |cons y l ih=>intro hl; simp only[dz]; rw[hl y (by simp),ih fun id hi=>hl id (by simp[hi])]
  simp only[refs2];rw[this _ (hone f u x z)]
 have I:Α all b t=some true->1<=cls E b.op->Ę E.clone a.op=true->∀x∈b.op.operands.toList,na∉refs2 h (ev t x):=fun f u h2=>hfar u h2 fun p V c hc1 hc2 hb1 hb2 x z id hi k=>by
  have H:=C u f;rw[qS,cW] at H;have hk2:=dC.1 H.2 p V;refine F8 hk2 hc1 j.hb hb2 hb1 hc2 id k ((qM u).2 ⟨x,z,?_⟩);rw[O x z];simp only[refs2,de];exact .inl hi
 have B:Α all b t=some true->1<=cls E b.op->∀x∈b.op.operands.toList,pO h (aps W h) (ev t x):=fun f u x z id hi=>by
  refine U8 fun p V k=>?_;rcases hea p V with⟨h2,o⟩|⟨h2,o⟩
  ·exact I f u o x z (by rw[<-h2,k]; exact hi)
  ·have H:=C u f;rw[qS,cW] at H;refine F8 H.1 j.ha j.hb j.bba j.bab (rr.2 (.inl ⟨h2,u⟩)) p.1 o ?_;rw[k];refine(qM u).2 ⟨x,z,?_⟩;rw[O x z,hrefs f u x z];exact hi
 -- what b does
 obtain⟨φb,b0,b1,b2,b3⟩:=Mw (t:=t) (t2:=Ă t a.dst va) (h:=h) (h2:=aps W h) (call:=call) (fid:=fid) (path:=path) (i:=ib) (nid:=nb) (all:=all) r hpe hb3 (wI _ _) G B;have hfb:zr E all b {t:=Ă t a.dst va,h:=aps W h}=zr E all b {t:=t,h:=h}:=Ql G B;rw[b3] at q2;obtain⟨⟨vb,eb⟩,q3,q4⟩:=iW q2;simp only at q4;rw[hfb] at q4;have heb:=b0 _ q3;simp only at heb;have hfo:Α all b t=some true->C9 E {t:=Ă t a.dst va,h:=aps W h} b.op=C9 E {t:=t,h:=h} b.op:=fun f=>Ix O (B f)
 -- a looks at the same
 have T:∀s∈je all a,lk (Ă t b.dst vb) s=lk t s:=fun s hs=>zD (j.ra s hs) _
 have J:EC E a.op b.op=true->∀id∈zr E all a {t:=t,h:=h},id∉zr E all b {t:=t,h:=h}:=fun hcl id hi hj=>by
  unfold zr at hj;simp only at hj
  split at hj
  ·rename_i f
   have u:1<=cls E b.op:=by rcases rr.1 hcl with h|h<;>omega
   have H:=C u f;rw[qS,cW,hfo f] at H;exact F8 H.1 j.ha j.hb j.bba j.bab hcl id hi hj
  ·cases hj
 have v:Α all a t=some true->1<=cls E a.op->∀x∈a.op.operands.toList,pO h (aps eb h) (ev t x):=fun f u x z id hi=>by
  have Y:id∈zr E all a {t:=t,h:=h}:=by
   unfold zr;simp only[f];exact(qM u).2 ⟨x,z,hi⟩
  refine U8 fun p V k=>?_;rcases heb p V with⟨h2,o⟩|⟨h2,o⟩
  ·exact hal1 id Y (by rw[<-k,h2]; exact hbd o)
  ·exact J (rr.2 (.inr ⟨u,h2⟩)) id Y (k▸o)
 obtain⟨φa',a0',a1',a2',a3'⟩:=Mw (t:=t) (t2:=Ă t b.dst vb) (h:=h) (h2:=aps eb h) (call:=call) (fid:=fid) (path:=path) (i:=ia) (nid:=na) (all:=all) r hpe j.a3 (wI _ _) T v;have hfa:zr E all a {t:=Ă t b.dst vb,h:=aps eb h}=zr E all a {t:=t,h:=h}:=Ql T v
 have o:rA E call fid path true all ia na a {t:=t,h:=h} (fun S=>K (zr E all a {t:=t,h:=h}) (zr E all b {t:=t,h:=h}) {t:=Ă S.t b.dst vb,h:=aps eb S.h})=some r:=by rw[a2,q1]; exact q4
 rw[a2'] at o;obtain⟨⟨va',ea'⟩,q5,q6⟩:=iW o;simp only at q6;have Z:=a0' _ q5;simp only at Z
 have hcomm:aps eb (aps ea' h)=aps ea' (aps eb h):=aeN fun p V q hq U=>by
  rcases Z p V with⟨h2,o⟩|⟨h2,o⟩<;>rcases heb q hq with⟨h4,N⟩|⟨h4,N⟩
  ·exact hn o N (by rw[<-h2,<-h4]; exact U)
  ·-- b would write a's new block
   have f:Α all b t=some true:=by
    unfold zr at N;simp only at N
    split at N
    ·assumption
    ·cases N
   have h5':q.1∈C9 E {t:=t,h:=h} b.op:=by
    unfold zr at N;simp only[f] at N;exact N
   obtain⟨x,z,hi⟩:=(qM (by omega)).1 h5';exact I f (by omega) o x z (by rw[<-h2,U]; exact hi)
  ·exact hal1 p.1 o (by rw[U,h4]; exact hbd N)
  ·exact J (rr.2 (.inl ⟨h2,by omega⟩)) p.1 o (by rw[U]; exact N)
 rw[No j.dd,hcomm] at q6
 -- the checks
 have chb:(Α all b t==some true&&!chk E all m acc ib (C9 E {t:=t,h:=h} b.op))=false:=by
  cases f:Α all b t==some true with
  |false=>rfl
  |true =>
   have R:Α all b t=some true:=by simpa using f
   rw[hwb,f] at d;simp only[eD,fk] at d ⊢;rw[qS,cW,hfo R] at d;exact d.2
 have cha:(Α all a (Ă t b.dst vb)==some true&&!chk E all m ((ib,zr E all b {t:=t,h:=h})::acc) ia (C9 E {t:=Ă t b.dst vb,h:=aps eb h} a.op))=false:=by
  rw[jC T]
  cases f:Α all a t==some true with
  |false=>rfl
  |true =>
   have R:Α all a t=some true:=by simpa using f
   rw[f] at L;simp only[eD,fk] at L ⊢;rw[Ix (KL T) (v R),qS,cW];refine⟨abp ?_,L⟩
   have hfa0:zr E all a {t:=t,h:=h}=C9 E {t:=t,h:=h} a.op:=by simp only[zr,R]
   cases A:Α all b t with
   |some wb=>cases wb with
    |true =>
     rw[hwb,A] at d;simp only[beq_self_eq_true,eD,fk] at d;rw[qS,cW,hfo A,hfa0] at d;simp only[zr,A];exact d.1
    |false=>simp only[zr,A]; exact Jn j.ha j.hb
   |none=>simp only[zr,A]; exact Jn j.ha j.hb
 unfold zh;simp only[chb];rw[b2,q3];simp only[Option.bind_some,cha];rw[a3',q5];simp only[Option.bind_some];rw[hfa];exact q6
abbrev Item:=Nat×Nat×Oper
def pY (clone:Nat->Bool):CK Oper->Nat->Nat->CK Item
 |[],_,_=>[]
 |o::os,i,nid=>(i,nid,o)::pY clone os (i+1) (bif Ę clone o.op then nid+1 else nid)
def ac1 (E:Env ρ) (call:CK Nat->Bool->Nat->CK AV->CK Blk->(AV->CK Blk->BY ρ)->BY ρ) (fid:Nat) (path:CK Nat) (all:CK Oper) (b:CK Nat):CK Item->CK (Nat×CK Nat)->St->(St->BY ρ)->BY ρ
 |[],_,S,K=>K S
 |x::l,acc,S,K=>zh E call fid path all b acc x.1 x.2.1 x.2.2 S fun F S=>ac1 E call fid path all b l ((x.1,F)::acc) S K
def YJ {E:Env ρ} {call:CK Nat->Bool->Nat->CK AV->CK Blk->(AV->CK Blk->BY ρ)->BY ρ} {fid:Nat} {path:CK Nat} {all:CK Oper} {b:CK Nat}:∀(os:CK Oper) (i nid:Nat) (acc:CK (Nat×CK Nat)) (S:St) (K:St->BY ρ),
 ahN E call fid path all b os i nid acc S K=ac1 E call fid path all b (pY E.clone os i nid) acc S K
 |[],_,_,_,_,_=>rfl
 |o::os,i,nid,acc,S,K=>by
  rw[ahM];simp only[pY,ac1];congr 1;funext F S';exact YJ os _ _ _ S' K
def alV {E:Env ρ} {all:CK Oper} {c:CK Nat} {acc b:CK (Nat×CK Nat)} {i:Nat} {F:CK Nat} (h:∀p,p∈acc↔p∈b):chk E all c acc i F=chk E all c b i F:=by
 rw[eI];simp only[chk,dC]
 exact forall_congr' fun p=>by rw[h p]
def X9 {E:Env ρ} {call:CK Nat->Bool->Nat->CK AV->CK Blk->(AV->CK Blk->BY ρ)->BY ρ} {fid:Nat} {path:CK Nat} {all:CK Oper} {c:CK Nat} {K:St->BY ρ}:∀(l:CK Item) {acc b:CK (Nat×CK Nat)} (S:St),(∀p,p∈acc↔p∈b) ->
 ac1 E call fid path all c l acc S K=ac1 E call fid path all c l b S K
 |[],_,_,_,_=>rfl
 |x::l,acc,b,S,h=>by
  simp only[ac1,zh];rw[alV h]
  split
  ·rfl
  ·congr 1;funext S'
   exact X9 l S' fun p=>by simp[h p]
def am3 {E:Env ρ} {call:CK Nat->Bool->Nat->CK AV->CK Blk->(AV->CK Blk->BY ρ)->BY ρ} {fid:Nat} {path:CK Nat} {all:CK Oper} {f:CK Nat} {b:Item} {rest:CK Item} {K:St->BY ρ} {r:ρ} {h0:CK Blk} {t0:CK AV}
 (v:akz E call) :
 ∀(as:CK Item) (acc:CK (Nat×CK Nat)) (t:CK AV) (h:CK Blk),(∀a∈as,amC E all f a.1 b.1 a.2.2 b.2.2)->(∀s∈je all b.2.2,lk t s=lk t0 s)->(Ę E.clone b.2.2.op=true->lkB h b.2.1=.dead) ->
  (∀a∈as,Ę E.clone a.2.2.op=true->Ę E.clone b.2.2.op=true->a.2.1≠b.2.1)->(∀a∈as,Ę E.clone a.2.2.op=true->∀x∈b.2.2.op.operands.toList,a.2.1∉refs2 h0 (ev t0 x)) ->
  (1<=cls E b.2.2.op->∀x∈b.2.2.op.operands.toList,∀id∈refs1 (ev t0 x),lkB h id=lkB h0 id\/∃p∈acc,(∃c,all[p.1]?=some c/\EC E c.op b.2.2.op=true/\(f.getD b.1 0).testBit p.1=false/\(f.getD p.1 0).testBit b.1=false)/\id∈p.2) ->
  ac1 E call fid path all f (as++b::rest) acc {t:=t,h:=h} K=some r->ac1 E call fid path all f (b::(as++rest)) acc {t:=t,h:=h} K=some r
 |[],acc,t,h,_,_,_,_,_,_,e=>e
 |a::as,acc,t,h,L,ht,A,Y,hfar,hinv,e=>by
  have C:=L a (by simp);have m:∀x∈b.2.2.op.operands.toList,ev t x=ev t0 x:=KL ht
  have H:Ę E.clone a.2.2.op=true->∀x∈b.2.2.op.operands.toList,a.2.1∉refs1 (ev t x):=fun j x k hi=>hfar a (by simp) j x k (by
   rw[m x k] at hi;simp only[refs2,de]
   exact .inl hi)
  simp only[fe,ac1] at e ⊢
  have fin:=swap (K:=fun R O S=>ac1 E call fid path all f (as++rest) ((b.1,O)::(a.1,R)::acc) S K) (r:=r) (t:=t) (h:=h) (acc:=acc) (ia:=a.1) (na:=a.2.1) (ib:=b.1) (nb:=b.2.1) (a:=a.2.2) (b:=b.2.2) (fid:=fid) (path:=path) v C A (Y a (by simp)) H
   (fun T j V x k=>by
    rw[m x k];have q:∀id∈refs1 (ev t0 x),lkB h id=lkB h0 id:=fun id hi=>(hinv T x k id hi).resolve_right fun⟨p,o,⟨c,c1,c2,c3,c4⟩,d⟩=>V p o c c1 c2 c3 c4 x k id (by rw[m x k]; exact hi) d
    have:refs2 h (ev t0 x)=refs2 h0 (ev t0 x):=by
     have key:∀(l:CK Nat),(∀id∈l,lkB h id=lkB h0 id)->(l.flatMap fun id=>(QP (lkB h id)).flatMap Ŏ)=l.flatMap fun id=>(QP (lkB h0 id)).flatMap Ŏ:=by
      intro l
      induction l with
      |nil=>intro _; rfl
      |cons y l ih=>intro hl; simp only[dz]; rw[hl y (by simp),ih fun id hi=>hl id (by simp[hi])]
     simp only[refs2];rw[key _ q]
    rw[this]
    exact hfar a (by simp) j x k) ?_
  ·have u:∀(R O:CK Nat) (S:St),ac1 E call fid path all f (as++rest) ((b.1,O)::(a.1,R)::acc) S K=ac1 E call fid path all f (as++rest) ((a.1,R)::(b.1,O)::acc) S K:=fun R O S=>X9 _ S fun p=>by
    simp only[df]
    constructor<;>rintro(h|h|h)<;>simp[h]
   simp only[u] at fin;exact fin
  ·-- behind a
   obtain⟨φa,a0,a1,a2,_⟩:=Mw (t:=t) (t2:=t) (h:=h) (h2:=h) (call:=call) (fid:=fid) (path:=path) (i:=a.1) (nid:=a.2.1) (all:=all) r v C.a3 rfl (fun _ _=>rfl) (fun _ _ _ _ _ _=>rfl);unfold zh at e ⊢
   split at e<;>try (cases e; done)
   rename_i I;simp only[I];rw[a2] at e ⊢;obtain⟨⟨va,ea⟩,U,Z⟩:=iW e;rw[U];simp only[eS];have N:=a1 _ U;have z:=a0 _ U;simp only at z Z;refine am3 v as _ _ _ (fun c J=>L c (by simp[J])) (fun s hs=>(zD (C.rb s hs) _).trans (ht s hs)) (fun j=>?_) (fun c J=>Y c (by simp[J])) (fun c J=>hfar c (by simp[J])) (fun T x k id hi=>?_) Z
   ·refine(U8 fun p o d=>?_).trans (A j);rcases z p o with⟨h2,B⟩|⟨h2,B⟩
    ·exact Y a (by simp) B j (h2.symm.trans d)
    ·exact N p.1 B (by rw[d]; exact A j)
   ·by_cases G:∃p∈ea,p.1=id
    ·obtain⟨p,o,d⟩:=G;rcases z p o with⟨h2,B⟩|⟨h2,B⟩
     ·exfalso;exact H B x k (by rw[m x k,<-h2,d]; exact hi)
     ·exact .inr ⟨(a.1,_),List.mem_cons_self ..,⟨a.2.2,C.ha,rr.2 (.inl ⟨h2,T⟩),C.bab,C.bba⟩,d▸B⟩
    ·have W:lkB (aps ea h) id=lkB h id:=U8 fun p o d=>G ⟨p,o,d⟩;rw[W];rcases hinv T x k id hi with h2|⟨p,o,h2⟩
     ·exact .inl h2
     ·exact .inr ⟨p,by simp[o],h2⟩
section
variable {ν:Nat->Value} {w:World}
def VR0.refs {a:AV} {v:Value} (c:VR0 ν h w a v):∀id∈Ŏ a,lkB h id≠.dead:=by
 intro id hi hd
 cases a<;>simp only[Ŏ,dh,iu] at hi
 ·subst hi; obtain⟨_,t,g',fz,xs,b,_⟩:=c; rw[hd] at b; cases b
 ·subst hi; obtain⟨_,t,g',fz,xs,b,_⟩:=c; rw[hd] at b; cases b
 ·subst hi; obtain⟨_,t,g',fz,b,_⟩:=c; rw[hd] at b; cases b
 ·subst hi; obtain⟨_,_,b,_⟩:=c; rw[hd] at b; cases b
 ·subst hi; obtain⟨_,t,g',fz,xs,b,_⟩:=c; rw[hd] at b; cases b
def VR1.refs {a:AV} {v:Value} (b:VR1 ν h w a v):∀id∈Ŏ a,lkB h id≠.dead:=by
 cases c:a.isFn with
 |true=>cases a<;>first|(cases c; done)|(intro id hi; cases hi)
 |false=>rw[zd c] at b; exact b.refs
def ĕ.left_mem {α β:Type} {R:α->β->Prop}:∀{l:CK α} {m:CK β},ĕ R l m->∀a∈l,∃b∈m,R a b
 |[],_,_,a,ha=>by cases ha
 |x::l,y::m,h,a,ha=>by
  rcases df.1 ha with rfl|ha
  ·exact⟨y,by simp,h.1⟩
  ·obtain⟨b,hb,c⟩:=ĕ.left_mem h.2 a ha;exact⟨b,by simp[hb],c⟩
 |_::_,[],h,_,_=>h.elim
def VR.refs1 {a:AV} {v:Value} (j:VR ν h w a v):∀id∈Go.Am.refs1 a,lkB h id≠.dead:=by
 cases d:a.isAgg with
 |true =>
  cases a<;>try cases d
  obtain⟨us,_,h2⟩:=j;intro id hi;simp only[Go.Am.refs1,dA] at hi;obtain⟨c,i,hi⟩:=hi;obtain⟨u,_,b⟩:=h2.left_mem c i;exact b.1.refs id hi
 |false =>
  cases e:a.isTup with
  |true=>cases a<;>first|(cases e; done)|(intro id hi; cases hi)
  |false =>
   have k:=j.one d e;have h2:=k.refs
   cases a with
   |fn f fa fb =>
    obtain⟨fs,cs,_,m,l⟩:=k
    have one:∀c u,VR0 ν h w c u->∀id∈ahq c,lkB h id≠.dead:=fun c u b id hi=>by
     cases c with
     |agg=>exact b.elim
     |_=>exact b.refs id hi
    intro id hi;simp only[Go.Am.refs1,de,dA] at hi;rcases hi with⟨c,i,hi⟩|⟨c,i,hi⟩
    ·obtain⟨u,_,b⟩:=m.left_mem c i;exact one c u b id hi
    ·obtain⟨u,_,b⟩:=l.left_mem c i;exact one c u b id hi
   |agg=>cases d
   |_=>exact h2
def VR.refs2 (H:HR ν h w) {a:AV} {v:Value} (k:VR ν h w a v):∀id∈Go.Am.refs2 h a,lkB h id≠.dead:=by
 intro id hi;simp only[Go.Am.refs2,de,dA] at hi;rcases hi with hi|⟨j,p,c,d,hi⟩
 ·exact k.refs1 id hi
 ·have i:=H.blk j
  cases f:lkB h j with
  |cells cs =>
   rw[f] at i d;obtain⟨b,o,e,_,_,m⟩:=i;obtain⟨u,_,l⟩:=m.left_mem c d;exact l.1.refs id hi
  |_=>rw[f] at d; cases d
end
end
end Go.Am
end

noncomputable section
namespace Go.Am
variable [Ghost]
section
variable {ρ:Type} {ν:Nat->Value} {h:CK Blk} {w:World}
def aj9 (acc:CK Nat) (o:Oper):Nat:=o.after.toList.foldl (fun s e=>if Region.binds .any e then s ||| 2 ^ e.on ||| acc.getD e.on 0 else s) 0
def Km:∀(os:CK Oper) (acc:CK Nat),∃l,Γ os acc=acc++l/\∀(k:Nat) (o:Oper),os[k]?=some o->(acc++l).getD (acc.length+k) 0=aj9 ((acc++l).take (acc.length+k)) o
 |[],acc=>⟨[],by simp[Γ],by simp⟩
 |o::os,acc=>by
  obtain⟨l,c,h2⟩:=Km os (acc++[aj9 acc o]);refine⟨aj9 acc o::l,?_,?_⟩
  ·simp only[Γ];show Γ os (acc++[aj9 acc o])=_;rw[c]; simp
  ·intro k o' b
   cases k with
   |zero =>
    simp only[fT,Option.some.injEq] at b;subst b;simp[List.getD]
   |succ k =>
    have:=h2 k o' (by simpa using b);simp only[dg,List.singleton_append,cZ,dO] at this;rw[show acc.length+(k+1)=acc.length+1+k by omega];exact this
def aj8 {os:CK Oper} {k:Nat} {o:Oper} (b:os[k]?=some o):(Γ os []).getD k 0=aj9 ((Γ os []).take k) o:=by
 obtain⟨l,c,h2⟩:=Km os [];rw[c];simpa using h2 k o b
def WW {acc:CK Nat} {i:Nat}:∀(es:CK Edge) (s:Nat),(es.foldl (fun s e=>if Region.binds .any e then s ||| 2 ^ e.on ||| acc.getD e.on 0 else s) s).testBit i=true ->
 s.testBit i=true\/∃e∈es,Region.binds .any e=true/\(i=e.on\/(acc.getD e.on 0).testBit i=true)
 |[],s,h=>.inl h
 |e::es,s,h=>by
  simp only[gA] at h;rcases WW es _ h with b|⟨d,c,b⟩
  ·split at b
   ·rename_i hb;simp only[Nat.testBit_or,iw,Nat.testBit_two_pow,decide_eq_true_eq] at b;rcases b with(b|b)|b
    ·exact .inl b
    ·exact .inr ⟨e,by simp,hb,.inl b.symm⟩
    ·exact .inr ⟨e,by simp,hb,.inr b⟩
   ·exact .inl b
  ·exact .inr ⟨d,by simp[c],b⟩
def BC {E:Env ρ} {all:CK Oper} {e:CK Nat}:∀{bs:CK Oper} {c:Nat},CD E all e bs c=true->∀(k:Nat) (b:Oper),bs[k]?=some b->∀(i:Nat) (a:Oper),i<c+k->all[i]?=some a->alS E all a b=false\/(e.getD (c+k) 0).testBit i=true
 |[],_,_,k,b,d,_,_,_,_=>by simp at d
 |x::bs,c,h,k,b,d,i,a,hi,ha=>by
  simp only[CD,cW,dC,ff] at h
  cases k with
  |zero =>
   simp only[fT,Option.some.injEq] at d;subst d;have:=h.1 i (by omega);rw[ha] at this;simp only[iw,eJ] at this;simpa using this
  |succ k =>
   have:=BC h.2 k b (by simpa using d) i a (by omega) ha
   rwa [show c+1+k=c+(k+1) by omega] at this
def yL:∀{os:CK Oper} {j:Nat},aaN os j=true->∀(k:Nat) (o:Oper),os[k]?=some o->∀e∈o.after,Region.binds .any e=true->e.on<j+k
 |[],_,_,k,o,b,_,_,_=>by simp at b
 |x::os,j,h,k,o,b,e,c,hb=>by
  simp only[aaN,cW,dC] at h
  cases k with
  |zero =>
   simp only[fT,Option.some.injEq] at b;subst b;have:=h.1 e (by simpa using c);simp only[hb,dP,Bool.false_or,decide_eq_true_eq] at this;omega
  |succ k =>
   have:=yL h.2 k o (by simpa using b) e c hb;omega
def bef_lt {os:CK Oper} (hb:aaN os 0=true):∀(j i:Nat),((Γ os []).getD j 0).testBit i=true->i<j:=by
 intro j
 induction j using Nat.strongRecOn with
 |ind j e =>
  intro i hi
  cases d:os[j]? with
  |none =>
   obtain⟨l,k,_⟩:=Km os []
   have c:∀(os:CK Oper) (acc:CK Nat),(Γ os acc).length=acc.length+os.length:=by
    intro os
    induction os with
    |nil=>intro acc; simp[Γ]
    |cons o os e=>intro acc; simp only[Γ]; rw[e]; simp; omega
   have:(Γ os [])[j]?=none:=by
    rw[List.getElem?_eq_none_iff] at d ⊢;rw[c]; simpa using d
   simp[List.getD,this] at hi
  |some o =>
   rw[aj8 d] at hi;rcases WW _ _ hi with m|⟨ed,k,h2,f⟩
   ·simp at m
   ·have b:=yL hb j o d ed (by simpa using k) h2;rw[dH] at b;rcases f with rfl|f
    ·exact b
    ·have:((Γ os []).getD ed.on 0).testBit i=true:=by
      rw[<-f];congr 1;simp only[List.getD,d9];rw[if_pos (by omega)]
     exact Nat.lt_trans (e ed.on b i this) b
def sr {clone:Nat->Bool}:∀{os:CK Oper} {i nid:Nat} {x:Item},x∈pY clone os i nid->∃k,os[k]?=some x.2.2/\x.1=i+k/\nid<=x.2.1/\(Ę clone x.2.2.op=true->x.2.1<nid+jg clone os)
 |[],_,_,_,c=>by cases c
 |o::os,i,nid,x,c=>by
  simp only[pY,df] at c;rcases c with rfl|c
  ·exact⟨0,by simp,rfl,cX _,fun h=>by rw[oW]; simp only at h; rw[h]; simp⟩
  ·obtain⟨k,f,h2,d,e⟩:=sr c;refine⟨k+1,by simpa using f,by omega,?_,fun h=>?_⟩
   ·cases b:Ę clone o.op<;>rw[b] at d<;>simp at d<;>omega
   ·have:=e h;rw[oW]
    cases b:Ę clone o.op<;>rw[b] at this<;>simp at this ⊢<;>omega
def Ih {clone:Nat->Bool}:∀{os:CK Oper} {i nid k:Nat} {o:Oper},os[k]?=some o->∃n,(i+k,n,o)∈pY clone os i nid
 |[],_,_,k,_,h=>by simp at h
 |x::os,i,nid,0,o,h=>by
  simp only[fT,Option.some.injEq] at h;subst h;exact⟨nid,by simp[pY]⟩
 |x::os,i,nid,k+1,o,h=>by
  obtain⟨n,b⟩:=Ih (clone:=clone) (i:=i+1) (nid:=bif Ę clone x.op then nid+1 else nid) (os:=os) (k:=k) (o:=o) (by simpa using h);exact⟨n,by simp only[pY,df]; right; rwa [show i+(k+1)=i+1+k by omega]⟩
def JZ {clone:Nat->Bool}:∀{os:CK Oper} {i nid:Nat},(pY clone os i nid).Pairwise fun x y=>x.1<y.1/\(Ę clone x.2.2.op=true->x.2.1<y.2.1)
 |[],_,_=>List.Pairwise.nil
 |o::os,i,nid=>by
  refine List.Pairwise.cons (fun y d=>?_) JZ;obtain⟨k,_,h2,c,_⟩:=sr d;refine⟨by simp only; omega,fun b=>?_⟩;simp only at b;rw[b] at c;simp at c ⊢;omega
def afX {l:CK Item} {p e:Item->Bool} {b:Item} (k:l.Pairwise fun x y=>x.1<y.1) (hb:b∈l) (j:p b=true) (d:∀x∈l,e x=(p x&&x.1 != b.1)) :
 ∃as rest,l.filter p=as++b::rest/\l.filter e=as++rest/\∀a∈as,a∈l/\p a=true/\a.1<b.1:=by
 obtain⟨i,f,rfl⟩:=List.append_of_mem hb;rw[gJ] at k;obtain⟨_,h2,q⟩:=k;have m:∀x∈i,x.1<b.1:=fun x c=>q x c b (by simp);have o:∀x∈f,b.1<x.1:=fun x c=>(dG.1 h2).1 x c;refine⟨i.filter p,f.filter p,by simp[j],?_,fun a ha=>?_⟩
 ·have u:i.filter e=i.filter p:=List.filter_congr fun x c=>by
   rw[d x (by simp[c])]
   have:(x.1 != b.1)=true:=by have:=m x c; simp; omega
   rw[this]; simp
  have s:f.filter e=f.filter p:=List.filter_congr fun x c=>by
   rw[d x (by simp[c])]
   have:(x.1 != b.1)=true:=by have:=o x c; simp; omega
   rw[this]; simp
  have r:e b=false:=by rw[d b (by simp)]; simp
  simp[u,s,r]
 ·rw[dW] at ha;exact⟨by simp[ha.1],ha.2,m a ha.1⟩
def ade {α:Type} {R:α->α->Prop}:∀{l:CK α},l.Pairwise R->∀x∈l,∀y∈l,x=y\/R x y\/R y x
 |[],_,_,c,_,_=>by cases c
 |z::l,h,x,c,y,b=>by
  rw[dG] at h;rcases df.1 c with c|c
  ·rcases df.1 b with b|b
   ·exact .inl (c.trans b.symm)
   ·rw[c]; exact .inr (.inl (h.1 y b))
  ·rcases df.1 b with b|b
   ·rw[b]; exact .inr (.inr (h.1 x c))
   ·exact ade h.2 x c y b
def alN {E:Env ρ} {call:CK Nat->Bool->Nat->CK AV->CK Blk->(AV->CK Blk->BY ρ)->BY ρ} {L:Nat} (hE:nH E L call) {fid:Nat} {path:CK Nat} {d:Array Oper} (hp:path.length+1=L) (hg:uQ d.toList d.toList=true)
 (hd:ajg E d.toList=true) {base:Nat} {K:St->BY ρ} {r:ρ} {Q:Exit->Act->World->Prop} {m:Nat} (hmb:m<=base) :
 ∀(B:Nat) (c:Array Bool) (acc:CK (Nat×CK Nat)) (S:St) (a:Act) (ν:Nat->Value) (w:World),c.size=d.size ->
  (∀j i,c.getD j false=true->((Γ d.toList []).getD j 0).testBit i=true->c.getD i false=true) ->
  ((pY E.clone d.toList 0 base).filter fun x=>!c.getD x.1 true).length=B->Sim ν S a w ->
  (∀x∈(pY E.clone d.toList 0 base).filter fun x=>!c.getD x.1 true,Ę E.clone x.2.2.op=true->x.2.1<S.h.length/\lkB S.h x.2.1=.dead)->m<=S.h.length ->
  ac1 E call fid path d.toList (Γ d.toList []) ((pY E.clone d.toList 0 base).filter fun x=>!c.getD x.1 true) acc S K=some r ->
  (∀ν' Y a' w',Sim ν' Y a' w'->Ev m ν S.h w ν' Y.h w'->m<=Y.h.length->Dd m S.h Y.h->K Y=some r->Q .normal a' w') ->
  wpAnyIn fen 0 E.P .any d Q B c a w:=by
 simp only[ajg,cW] at hd;obtain⟨G,hdr⟩:=hd
 have A:∀{c:Array Bool} {j:Nat},c.size=d.size->j<d.size->c.getD j true=c.getD j false:=fun {c j} hs hj=>by
  have:j<c.size:=by omega
  simp[this]
 have hpw:=(JZ (clone:=E.clone) (os:=d.toList) (i:=0) (nid:=base)).imp fun {x y} h=>h.1;intro B
 induction B with
 |zero =>
  intro c acc S a ν w R hcl z H q hm e hQ;have Z:=dD.1 z;refine⟨?_,?_⟩
  ·rw[List.eq_nil_iff_forall_not_mem];intro j hj;obtain⟨h0,o,ho,_⟩:=mem_ready.1 hj;obtain⟨n,hn⟩:=Ih (clone:=E.clone) (i:=0) (nid:=base) (os:=d.toList) (k:=j) (o:=o) (by simpa using ho);have:(0+j,n,o)∈(pY E.clone d.toList 0 base).filter fun x=>!c.getD x.1 true:=dW.2 ⟨hn,by simp only[dH]; rw[h0]; rfl⟩;rw[Z] at this;cases this
  ·rw[Z] at e;exact hQ ν S a w H (Ev.refl _ _ _ _) hm (Dd.refl _ _) e
 |succ B ih =>
  intro c acc S a ν w R hcl z H q hm e hQ;refine⟨fun hr=>?_,fun j hj=>?_⟩
  ·-- the first of those that are left is ready
   exfalso
   cases f:(pY E.clone d.toList 0 base).filter fun x=>!c.getD x.1 true with
   |nil=>rw[f] at z; simp at z
   |cons x l =>
    have p:x∈(pY E.clone d.toList 0 base).filter fun x=>!c.getD x.1 true:=by rw[f]; simp
    rw[dW] at p;obtain⟨k,s,h2,_⟩:=sr p.1
    have hk:x.1=k:=by omega
    have I:x.1∈Region.ready .any d c:=mem_ready.2 ⟨by simpa using p.2,x.2.2,by rw[hk]; simpa using s,fun ed hed hb=>by
     have hlt:=yL G k x.2.2 s ed hed hb
     have hks:k<d.size:=by
      have:=(cY.1 s).1;simpa using this
     cases hl:c.getD ed.on false with
     |true=>rfl
     |false =>
      exfalso;obtain⟨o',ho'⟩:∃o',d.toList[ed.on]?=some o':=⟨_,cV (by simp; omega)⟩;obtain⟨n,hn⟩:=Ih (clone:=E.clone) (i:=0) (nid:=base) ho'
      have V:(0+ed.on,n,o')∈x::l:=by
       rw[<-f];refine dW.2 ⟨hn,?_⟩;simp only[dH];rw[A R (by omega),hl];rfl
      have hpl:(x::l).Pairwise fun x y=>x.1<y.1:=by rw[<-f]; exact hpw.filter _
      rcases df.1 V with W|W
      ·rw[<-W] at hk; simp at hk; omega
      ·have:=(dG.1 hpl).1 _ W
       simp only at this; omega⟩
    rw[hr] at I;cases I
  ·obtain⟨h0,o,ho,hed⟩:=mem_ready.1 hj;have hjs:j<d.size:=(fA.1 ho).1
   have O:d.toList[j]?=some o:=by simpa using ho
   obtain⟨n,hn⟩:=Ih (clone:=E.clone) (i:=0) (nid:=base) O;rw[dH] at hn
   have hpp:∀x∈pY E.clone d.toList 0 base,(fun x:Item=>!(c.setIfInBounds j true).getD x.1 true) x=((fun x:Item=>!c.getD x.1 true) x&&x.1 != j):=fun x p=>by
    by_cases N:x.1=j
    ·simp only[N]
     have:j<c.size:=by omega
     simp[this]
    ·have s:(c.setIfInBounds j true).getD x.1 true=c.getD x.1 true:=getD_set_ne true (Ne.symm N)
     have h2:(x.1 != j)=true:=by simpa using N
     simp only[s,h2,Bool.and_true]
   obtain⟨as,rest,f1,f2,f3⟩:=afX (b:=(j,n,o)) hpw hn (by simp only[h0]; rfl) hpp
   have hbit:∀i,((Γ d.toList []).getD j 0).testBit i=true->c.getD i false=true:=fun i hi=>by
    rw[aj8 O] at hi;rcases WW _ _ hi with hz|⟨ed,s,h2,W⟩
    ·simp at hz
    ·have hl:=hed ed (by simpa using s) h2;rcases W with rfl|W
     ·exact hl
     ·refine hcl ed.on i hl ?_;have hlt:=yL G j o O ed (by simpa using s) h2;rw[<-W];congr 1;simp only[List.getD,d9];rw[if_pos (by omega)]
   have T:=JZ (clone:=E.clone) (os:=d.toList) (i:=0) (nid:=base)
   have C:((j,n,o):Item)∈(pY E.clone d.toList 0 base).filter fun x=>!c.getD x.1 true:=by rw[f1]; simp
   have hne:∀x∈(pY E.clone d.toList 0 base).filter (fun x=>!c.getD x.1 true),x≠(j,n,o)->Ę E.clone x.2.2.op=true->Ę E.clone o.op=true->x.2.1≠n:=fun x p N s h2=>by
    have hsub:((pY E.clone d.toList 0 base).filter fun x=>!c.getD x.1 true).Pairwise fun x y=>x.1<y.1/\(Ę E.clone x.2.2.op=true->x.2.1<y.2.1):=T.filter _;rcases ade hsub x p _ C with he|hr|hr
    ·exact absurd he N
    ·exact gE (hr.2 s)
    ·exact(gE (hr.2 h2)).symm
   rw[f1] at e
   have e':=am3 (b:=(j,n,o)) (h0:=S.h) (t0:=S.t) (K:=K) (r:=r) hE.pureEq as acc S.t S.h (fun x p=>by
    obtain⟨g1,g2,g3⟩:=f3 x p;obtain⟨k,s,h2,_⟩:=sr g1
    have hk:x.1=k:=by omega
    have hkj:k<j:=by simp only at g3; omega
    have hnb:((Γ d.toList []).getD j 0).testBit k=false:=by
     cases hb:((Γ d.toList []).getD j 0).testBit k with
     |false=>rfl
     |true =>
      exfalso;have hl:=hbit k hb;simp only[eJ] at g2;rw[A R (by omega),hk,hl] at g2;cases g2
    have hnb2:((Γ d.toList []).getD k 0).testBit j=false:=by
     cases hb:((Γ d.toList []).getD k 0).testBit j with
     |false=>rfl
     |true=>have:=bef_lt G k j hb; omega
    have:=BC hdr j o O k x.2.2 (by omega) s;rw[dH,hnb] at this;rw[<-hk] at s hnb hnb2
    exact ack (this.resolve_right (by simp)) s O hnb hnb2)
    (fun _ _=>rfl)
    (fun J=>(q _ C J).2)
    (fun x p s h2=>hne x (by rw[f1]; simp[p]) (fun he=>by
     have:=(f3 x p).2.2;rw[he] at this
     simp at this) s h2)
    (fun x p s y hy hmem=>VR.refs2 H.heap (ŏ H y) _ hmem ((q x (by rw[f1]; simp[p]) s).2)) (fun _ _ _ _ _=>.inl rfl) e
   simp only[ac1,zh] at e'
   split at e'<;>try (cases e'; done)
   refine Nh hE.call hE.plain hE.clone hE.yld hg hp ho H (fun J=>q _ C J) e' fun ν' w' u v Y g1 g2 g3 g4 g5 g6 g7=>?_;have f:((pY E.clone d.toList 0 base).filter fun x=>!(c.setIfInBounds j true).getD x.1 true)=as++rest:=f2
   have V:∀x∈as++rest,x∈(pY E.clone d.toList 0 base).filter fun x=>!c.getD x.1 true:=fun x p=>by
    rw[f1]
    rcases de.1 p with p|p<;>simp[p]
   have hnj:∀x∈as++rest,x≠(j,n,o):=fun x p he=>by
    rw[<-f,dW] at p;rw[he] at p
    have hlt:j<c.size:=by omega
    simp[hlt] at p
   have hm':m<=Y.h.length:=du hm g4;refine ih (c.setIfInBounds j true) ((j,zr E d.toList o S)::acc) {t:=Ă Y.t o.dst v,h:=Y.h} _ ν' w' (by simpa using R) (fun j' i s h2=>?_) ?_ ?_ (fun x p J=>?_) hm' ?_ fun ν'' S'' a'' w'' q1 q2 q3 q4 q5=>hQ ν'' S'' a'' w'' q1 ((g3.mono hm).trans q2 (cX _)) q3 (fun i hi hdi=>q4 i hi ?_) q5
   ·by_cases hjj:j=j'
    ·subst hjj;exact getD_set_true (hbit i h2)
    ·rw[getD_set_ne false hjj] at s;exact getD_set_true (hcl j' i s h2)
   ·rw[f];rw[f1] at z;simp only[cZ,di] at z ⊢;omega
   ·rw[g6];exact H.put g3 g2 o.dst g1
   ·rw[f] at p;obtain⟨s,h2⟩:=q x (V x p) J;refine⟨by simp only; omega,g5 _ s ?_ h2⟩
    by_cases U:Ę E.clone o.op=true
    ·exact .inl (hne x (V x p) (hnj x p) J U)
    ·exact .inr (by simpa using U)
   ·rw[f];exact g7
   ·refine g5 i (by omega) ?_ hdi
    by_cases U:Ę E.clone o.op=true
    ·left;obtain⟨k,_,_,W,_⟩:=sr hn;simp only at W;show i≠n;omega
    ·exact .inr (by simpa using U)
def ox {E:Env ρ} (hmix:E.P.follows .mixedOrders=true) (L:Nat) (call:CK Nat->Bool->Nat->CK AV->CK Blk->(AV->CK Blk->BY ρ)->BY ρ) (C:nH E L call):xp E L call:=by
 intro fid rid path b S a K r m ν w z e H A;unfold Nt at e
 split at e<;>try (cases e; done)
 rename_i s;simp only[eD,fL,fk] at s;apply wpIn_region_any hmix;have c:=fun id=>WE S.h (jg E.clone b.toList) id;have V:Sim ν {t:=S.t,h:=S.h++List.replicate (jg E.clone b.toList) .dead} a {w with drawn:=w.drawn+1}:=H.same c rfl rfl rfl rfl;have v:Ev m ν S.h w ν (S.h++List.replicate (jg E.clone b.toList) .dead) {w with drawn:=w.drawn+1}:=Ev.same (w:=w) (w':={w with drawn:=w.drawn+1}) c rfl rfl rfl rfl m
 have d:((pY E.clone b.toList 0 S.h.length).filter fun x=>!(Array.replicate b.size false).getD x.1 true)=pY E.clone b.toList 0 S.h.length:=by
  rw[gO];intro x l;obtain⟨k,p,h2,_⟩:=sr l
  have q:k<b.size:=by
   have:=(cY.1 p).1;simpa using this
  have:x.1=k:=by omega
  simp[this,q]
 have f:∀(os:CK Oper) (i nid:Nat),(pY E.clone os i nid).length=os.length:=by
  intro os
  induction os with
  |nil=>intros; rfl
  |cons o os y=>intro i nid; simp[pY,y]
 refine alN (fid:=fid) (base:=S.h.length) (K:=K .normal) (r:=r) C z s.2 s.1 A b.size _ [] {t:=S.t,h:=S.h++List.replicate (jg E.clone b.toList) .dead} a ν _ (by simp) (fun j i p _=>?_) ?_ V (fun x l u=>?_) ?_ ?_ fun ν' U W w' T R O N J=>⟨ν',U,T,v.trans R (cX _),O,fun j B hd=>N j B (by simp only[c]; exact hd),J⟩
 ·exfalso;rcases dl j b.size with h|h
  ·simp[h] at p
  ·simp[h] at p
 ·rw[d,f]; simp
 ·rw[d] at l;obtain⟨k,_,_,I,G⟩:=sr l;have:=G u;refine⟨by simp; omega,?_⟩;simp only[c];exact Z3 _ _ I
 ·simp; omega
 ·rw[d,<-YJ];exact e
end
end Go.Am
end
