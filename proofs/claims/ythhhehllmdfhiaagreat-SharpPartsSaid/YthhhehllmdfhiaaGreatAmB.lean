/- lemmas -/
import Derived.Test.YthhhehllmdfhiaaGreatAmA
import Derived.OrdersIn
import Derived.LoopNIn
import Derived.ProofKit
import Derived.OpenShut
import Derived.WalkKit
import Derived.SizedLaws
import Derived.Carry
set_option linter.all false
set_option linter.unusedSectionVars false
set_option linter.unusedVariables false
set_option linter.unusedSimpArgs false
noncomputable section
namespace Go.Am
variable [ò]
section
variable {ν ν':Nat→Value} {w w':World} {P:Program}
def aVK (ν:Nat→Value) (S:St) (w:World) (r:Result Next) (v:AV) (S':St):Prop :=
 ∃ν' w' u,(r=.ok (.value u) w'∨(r=.ok .skip w'∧u=undef))∧VR ν' S'.h w' v u∧HR ν' S'.h w'∧Ev S.h.length ν S.h w ν' S'.h w'∧S'.h.length=S.h.length∧S'.t=S.t
theorem ad4.step {S:St} {x:Sem Value} {v:AV} {h':List Blk} (hd:ad4 P ν S.h w x v h') :
 aVK ν S w ((do let u ←x; pure (.value u):Sem Next).run P w) v {t:=S.t,h:=h'}:=by
 obtain⟨ν',w',u,h1,h2,h3,h4,h5⟩:=hd
 refine⟨ν',w',u,.inl ?_,h2,h3,h4,h5,rfl⟩
 simp[h1]
theorem aVK.still {S:St} {r:Result Next} {v:AV} {u:Value} (H:HR ν S.h w) (hr:r=.ok (.value u) w) (hv:VR ν S.h w v u):aVK ν S w r v S :=
 ⟨ν,w,u,.inl hr,hv,H,Ev.refl _ _ _ _,rfl,rfl⟩
theorem aNo {S:St} {x:Sem Unit} {h':List Blk} (hd:∃w',x.run P w=.ok () w'∧HR ν h' w'∧Ev S.h.length ν S.h w ν h' w'∧h'.length=S.h.length) :
 aVK ν S w ((do x; pure .skip:Sem Next).run P w) .any {t:=S.t,h:=h'}:=by
 obtain⟨w',h1,h3,h4,h5⟩:=hd
 refine⟨ν,w',undef,.inr ⟨?_,rfl⟩,trivial,h3,h4,h5,rfl⟩
 simp[h1]
theorem aXk {a:AV} {v:Value} {h:List Blk} (hi:isV0 a=true) (hv:VR ν h w a v):VR0 ν h w a v:=by
 have h1:a.isFn=false:=by cases a<;>first|rfl|cases hi
 have h2:a.isAgg=false:=by cases a<;>first|rfl|cases hi
 have h3:a.isTup=false:=by cases a<;>first|rfl|cases hi
 rwa [ayQ h3,aJE h2,aFR h1] at hv
theorem Ė.of_map {α β γ:Type} {R:β→γ→Prop} {f:α→β} {g:α→γ}:∀{l:List α},(∀x∈l,R (f x) (g x))→Ė R (l.map f) (l.map g)
 |[],_=>trivial
 |x::l,h=>⟨h x (by simp),Ė.of_map fun y hy=>h y (by simp[hy])⟩
theorem aZf (k:IntKind) (a b:Int):(Builtin.max2 (.int k a) (.int k b)).run P w=.ok (.int k (aFZ a b)) w:=rfl
theorem aZe (k:IntKind) (a b:Int):(Builtin.min2 (.int k a) (.int k b)).run P w=.ok (.int k (aPV a b)) w:=rfl
theorem aWk {S:St} {a:Act} {x y:Operand} (h:ar5 x y=true):a.eval x=a.eval y:=by
 unfold ar5 at h
 split at h
 ·have:=eq_of_beq h; subst this; rfl
 ·have:=of_decide_eq_true h; subst this; rfl
 ·cases h
theorem adc {α β:Type} {x:Option α} {f:α→Option β} {r:β} (h:x.bind f=some r):∃a,x=some a∧f a=some r:=by
 cases x with
 |none=>cases h
 |some a=>exact⟨a,rfl,h⟩
theorem arr1 {α:Type} {a:Array α} {x:α} (h:a.toList=[x]):a=#[x]:=Array.ext' (by simpa using h)
theorem arr2 {α:Type} {a:Array α} {x y:α} (h:a.toList=[x,y]):a=#[x,y]:=Array.ext' (by simpa using h)
theorem aeP {S:St} {a:Act} {o:Oper} {b:Builtin} {args:Array Operand} {tys:Array TypeId} {f:Array TypeId→TypeId→Array Value→Sem Value} (hop:o.op=.call ⟨.builtin b,args,tys⟩)
 (hb:∀consts vs,builtin b tys o.type consts vs=(do pure (.value (←f tys o.type vs)):Sem Next)) :
 execOp a.eval o=(do let u ←f tys o.type (args.map a.eval); pure (.value u)):=by
 unfold execOp
 rw[hop]
 simp only[resolve,pure_bind,invoke,hb]
theorem aZk {S S':St} {a:Act} {o:Oper} {nid:Nat} {eat:Bool} {v:AV} {clone:Nat→Bool} (H:Sim ν S a w) (hn:ċ clone o.op=true→nid<S.h.length∧lkB S.h nid=.dead)
 (e:opR P S nid eat o.op=some (v,S')):aVK ν S w ((execOp a.eval o).run P w) v S':=by
 have hr:=H.heap
 cases hop:o.op with
 | move x =>
   rw[hop] at e; cases e
   exact aVK.still hr (by unfold execOp; rw[hop]; rfl) (ň H x)
 | assign x =>
   rw[hop] at e; cases e
   exact aVK.still hr (by unfold execOp; rw[hop]; rfl) (ň H x)
 | pick c x y =>
   rw[hop] at e
   simp only[opR,opK] at e
   split at e<;>try (cases e; done)
   rename_i b hb
   have hc:=ň H c
   rw[hb] at hc
   have hc:a.eval c=.bool b:=hc
   have hx:(execOp a.eval o).run P w=.ok (.value (if b then a.eval x else a.eval y)) w:=by unfold execOp; rw[hop]; simp[asBool,hc]
   split at e
   ·cases e; exact aVK.still hr hx (ň H x)
   ·cases e; exact aVK.still hr hx (ň H y)
 | box el x =>
   rw[hop] at e
   simp only[opR,opK] at e
   split at e<;>try (cases e; done)
   rename_i cs hcs
   have hx:execOp a.eval o=(do let u ←Instr.box el (a.eval x); pure (.value u)):=by unfold execOp; rw[hop]
   rw[hx]
   split at e
   ·split at e<;>try (cases e; done)
    split at e<;>try (cases e; done)
    rename_i y hy
    cases e
    exact(a1L hr hcs hy (ň H x)).step
   ·cases e
    obtain⟨h1,h2⟩:=hn (by rw[hop]; rfl)
    exact(box_ok hr h1 h2 hcs (ň H x)).step
 | alloc el =>
   rw[hop] at e
   simp only[opR,opK] at e
   split at e<;>try (cases e; done)
   rename_i z hz
   split at e<;>try (cases e; done)
   rename_i cs hcs
   cases e
   obtain⟨h1,h2⟩:=hn (by rw[hop]; rfl)
   have hx:execOp a.eval o=(do let u ←Instr.alloc el true (.tuple #[]); pure (.value u)):=by unfold execOp; rw[hop]
   rw[hx]
   exact(a0m hr h1 h2 hz hcs).step
 | build t ps =>
   rw[hop] at e
   simp only[opR,opK] at e
   have hx:execOp a.eval o=(do let u ←Instr.build t (ps.map fun(i,x)=>(i,a.eval x)); pure (.value u)):=by unfold execOp; rw[hop]
   rw[hx]
   split at e<;>try (cases e; done)
   ·rename_i fs ht
    split at e<;>try (cases e; done)
    rename_i hfs
    split at e<;>try (cases e; done)
    rename_i z hz
    split at e<;>try (cases e; done)
    rename_i zs hzs
    split at e<;>try (cases e; done)
    rename_i cs hcs
    cases e
    exact(aH4 H ht hfs hz hzs hcs).step
   ·rename_i n el ht
    split at e<;>try (cases e; done)
    rename_i sz z hs hz
    split at e<;>try (cases e; done)
    rename_i zs hzs
    split at e<;>try (cases e; done)
    rename_i cs hcs
    cases e
    exact(aSL H ht hs hz hzs hcs).step
 | buildSlice t n ps =>
   rw[hop] at e
   simp only[opR,opK] at e
   split at e<;>try (cases e; done)
   rename_i el hel
   split at e<;>try (cases e; done)
   rename_i ty hty
   split at e<;>try (cases e; done)
   rename_i hc
   simp only[Bool.and_eq_true,beq_iff_eq,decide_eq_true_eq] at hc
   split at e<;>try (cases e; done)
   rename_i xs hxs
   cases e
   obtain⟨h1,h2⟩:=hn (by rw[hop]; rfl)
   have hx:execOp a.eval o=(do let u ←Instr.buildSlice t n (ps.map fun(i,x)=>(i,a.eval x)); pure (.value u)):=by unfold execOp; rw[hop]
   rw[hx]
   exact(aMY H h1 h2 hel hc.1 hc.2.1 hc.2.2 hxs).step
 | load t x =>
   rw[hop] at e
   simp only[opR,opK] at e
   rw[ak5] at e
   obtain⟨v',h1,h2⟩:=adc e
   cases h2
   have hx:execOp a.eval o=(do let u ←Instr.loadAt t (a.eval x); pure (.value u)):=by unfold execOp; rw[hop]
   rw[hx]
   obtain⟨u,h3,h4⟩:=aXa hr h1 (ň H x)
   exact(ad4.still hr h3 h4).step
 | store t x y =>
   rw[hop] at e
   simp only[opR,opK] at e
   have hx:execOp a.eval o=(do Instr.storeAt t (a.eval x) (a.eval y); pure .skip):=by unfold execOp; rw[hop]
   rw[hx]
   split at e
   ·split at e<;>try (cases e; done)
    rename_i id g lo n hsub
    split at e<;>try (cases e; done)
    rename_i ty g' xs hl
    split at e<;>try (cases e; done)
    rename_i hc
    simp only[Bool.and_eq_true,beq_iff_eq,decide_eq_true_eq] at hc
    obtain⟨rfl,hln⟩:=hc
    rw[ahL] at e
    obtain⟨h',h1,h2⟩:=adc e
    cases h2
    have hy:=ň H y
    rw[hsub] at hy
    obtain⟨ν1,v1,H1,ev1⟩:=a1z hr hl hln hy
    obtain⟨w',k1,k2,k3,k4⟩:=aTc H1 h1 ((ň H x).ev ev1) v1
    refine⟨ν1,w',undef,.inr ⟨?_,rfl⟩,trivial,k2,ev1.trans k3 (Nat.le_of_eq (ë _ _ _).symm),k4.trans (ë _ _ _),rfl⟩
    simp[k1]
   ·rw[ahL] at e
    obtain⟨h',h1,h2⟩:=adc e
    cases h2
    exact aNo (aTc hr h1 (ň H x) (ň H y))
 | nilCheck x =>
   rw[hop] at e
   simp only[opR,opK] at e
   have hv:=ň H x
   split at e<;>try (cases e; done)
   ·rename_i id off he
    cases e
    rw[he] at hv
    have hv':=hv
    obtain⟨cs,b,h1,h2,h3⟩:=hv'
    exact aVK.still hr (by unfold execOp; rw[hop]; simp only[h3]; rfl) (h3▸hv)
   ·rename_i t x' off he
    cases e
    rw[he] at hv
    have hv':=hv
    obtain⟨b,o',us,h3,h4⟩:=hv'
    exact aVK.still hr (by unfold execOp; rw[hop]; simp only[h3]; rfl) (h3▸hv)
   ·rename_i id g i off he
    split at e<;>try (cases e; done)
    rename_i t g' fz xs hl
    split at e<;>try (cases e; done)
    rename_i hgg
    cases e
    rw[he] at hv
    have hv':=hv
    obtain⟨ho,t2,g2,fz2,xs2,hl2,hle,hf⟩:=hv'
    rw[hl] at hl2; cases hl2
    obtain⟨_,b,o',cap,_,h3⟩:=hf (eq_of_beq hgg)
    exact aVK.still hr (by unfold execOp; rw[hop]; simp only[h3]; rfl) (h3▸hv)
 | binOp op t x y yt =>
   rw[hop] at e
   simp only[opR,opK] at e
   rw[aqi] at e
   obtain⟨v',h1,h2⟩:=adc e
   cases h2
   have hx:execOp a.eval o=(do let u ←(do eqGuard op t x y (a.eval x) (a.eval y); binOp op t (a.eval x) (a.eval y)); pure (.value u)):=by unfold execOp; rw[hop]
   rw[hx]
   exact(a0i x y hr h1 (ň H x) (ň H y)).step
 | unOp op t x =>
   rw[hop] at e
   simp only[opR,opK] at e
   have hx:execOp a.eval o=(do let u ←Op.unary op (a.eval x); pure (.value u)):=by unfold execOp; rw[hop]
   rw[hx]
   have hv:=ň H x
   split at e<;>try (cases e; done)
   ·rename_i b he
    cases e
    rw[he] at hv
    exact(aV4 (op:=.not) hr hv rfl).step
   ·rename_i k n he
    rw[atj] at e
    obtain⟨v',h1,h2⟩:=adc e
    cases h2
    rw[he] at hv
    exact(aV4 (op:=.neg) hr hv h1).step
 | convert src dst x =>
   rw[hop] at e
   simp only[opR,opK] at e
   have hx:execOp a.eval o=(do let u ←convert src dst (a.eval x); pure (.value u)):=by unfold execOp; rw[hop]
   rw[hx]
   have hv:=ň H x
   split at e<;>try (cases e; done)
   rename_i d k k' n hs hd he
   cases e
   rw[he] at hv
   have hv:a.eval x=.int k' n:=hv
   refine(ad4.still (v:=.int k (k.wrap n)) (u:=.int k (k.wrap n)) hr ?_ rfl).step
   rw[hv]
   simp only[convert,Sem.run_bind,run_underlying hs,run_underlying hd,Result.andThen_ok]
   simp[Conv.intToInt]
 | makeFunc fn first caps =>
   rw[hop] at e
   simp only[opR,opK] at e
   split at e<;>try (cases e; done)
   rename_i hc
   simp only[Bool.and_eq_true,List.all_eq_true] at hc
   cases e
   have hx:execOp a.eval o=(do let u ←Instr.makeFunc fn (first.map a.eval) (caps.map a.eval); pure (.value u)):=by unfold execOp; rw[hop]
   rw[hx]
   refine(ad4.still (v:=.fn fn (first.toList.map (ev S.t)) (caps.toList.map (ev S.t))) (u:=.func fn (first.map a.eval) (caps.map a.eval)) hr rfl ⟨_,_,rfl,?_,?_⟩).step
   ·rw[Array.toList_map]
    exact Ė.of_map fun x hx=>aXk (hc.1 _ (List.mem_map_of_mem hx)) (ň H x)
   ·rw[Array.toList_map]
    exact Ė.of_map fun x hx=>aXk (hc.2 _ (List.mem_map_of_mem hx)) (ň H x)
 | makeMap t r =>
   rw[hop] at e
   simp only[opR,opK] at e
   split at e<;>try (cases e; done)
   rename_i kt et ht
   split at e<;>try (cases e; done)
   rename_i k v' hk hv
   split at e<;>try (cases e; done)
   cases e
   obtain⟨h1,h2⟩:=hn (by rw[hop]; rfl)
   have hx:execOp a.eval o=(do let u ←Instr.makeMap t none; pure (.value u)):=by unfold execOp; rw[hop]; rfl
   rw[hx]
   exact(aUO k v' hr h1 h2).step
 | makeSlice t l c =>
   rw[hop] at e
   simp only[opR,opK] at e
   split at e<;>try (cases e; done)
   rename_i k n el hsame hl hel
   split at e<;>try (cases e; done)
   rename_i ty hty
   split at e<;>try (cases e; done)
   rename_i hrow
   split at e<;>try (cases e; done)
   rename_i zs hzs
   split at e<;>try (cases e; done)
   rename_i z hz
   split at e<;>try (cases e; done)
   rename_i hb
   simp only[Bool.and_eq_true,decide_eq_true_eq,ì] at hb
   cases e
   obtain⟨h1,h2⟩:=hn (by rw[hop]; rfl)
   have hv:=ň H l
   rw[hl] at hv
   have hv:a.eval l=.int k n:=hv
   have hc:a.eval c=.int k n:=by rw[←aWk (S:=S) hsame,hv]
   have hx:execOp a.eval o=(do let u ←Instr.makeSlice t (.int k n) (.int k n); pure (.value u)):=by unfold execOp; rw[hop]; simp only[hv,hc]
   rw[hx]
   exact(aOt hr h1 h2 hel hrow hzs hz hb.1 hb.2).step
 | slice t x lo hi mx =>
   rw[hop] at e
   simp only[opR,opK] at e
   split at e<;>try (cases e; done)
   rename_i el ht
   split at e<;>try (cases e; done)
   rename_i sz hs
   rw[apy] at e
   obtain⟨⟨v',h'⟩,h1,h2⟩:=adc e
   cases h2
   have hx:execOp a.eval o=(do let u ←Instr.sliceAt t (a.eval x) (lo.map a.eval) (hi.map a.eval) none; pure (.value u)):=by unfold execOp; rw[hop]; rfl
   rw[hx]
   refine(aZa hr ht hs h1 (ň H x) (fun y hy=>?_) (fun hy=>?_) (fun y hy=>?_) (fun hy=>?_)).step
   ·cases lo with
    |none=>cases hy
    |some l=>cases hy; exact⟨_,rfl,ň H l⟩
   ·cases lo with
    |none=>rfl
    |some l=>cases hy
   ·cases hi with
    |none=>cases hy
    |some l=>cases hy; exact⟨_,rfl,ň H l⟩
   ·cases hi with
    |none=>rfl
    |some l=>cases hy
 | fieldAddr t x f =>
   rw[hop] at e
   simp only[opR,opK] at e
   split at e<;>try (cases e; done)
   rename_i fs ht
   split at e<;>try (cases e; done)
   rename_i fd hf
   split at e<;>try (cases e; done)
   rename_i n hs
   rw[ahN] at e
   obtain⟨v',h1,h2⟩:=adc e
   cases h2
   have hx:execOp a.eval o=(do let u ←Instr.fieldAt t (a.eval x) f; pure (.value u)):=by unfold execOp; rw[hop]
   rw[hx]
   exact(aQd hr ht hf hs h1 (ň H x)).step
 | field t x f =>
   rw[hop] at e
   simp only[opR,opK] at e
   have hv:=ň H x
   split at e<;>try (cases e; done)
   rename_i fs cs ht hc
   split at e<;>try (cases e; done)
   rename_i fd hf
   split at e<;>try (cases e; done)
   rename_i agg n hl
   split at e<;>try (cases e; done)
   rename_i ds hg
   split at e<;>try (cases e; done)
   rename_i v' hm
   cases e
   rw[hc] at hv
   have hx:execOp a.eval o=(do let u ←Instr.field t (a.eval x) f; pure (.value u)):=by unfold execOp; rw[hop]
   rw[hx]
   exact(aZK hr ht hf hl hg hm hv).step
 | indexAddr t x i =>
   rw[hop] at e
   simp only[opR,opK] at e
   have hx:execOp a.eval o=(do let u ←Instr.indexAt t (a.eval x) (a.eval i); pure (.value u)):=by unfold execOp; rw[hop]
   rw[hx]
   split at e<;>try (cases e; done)
   ·rename_i el ht
    split at e<;>try (cases e; done)
    rename_i sz hs
    rw[ahT] at e
    obtain⟨v',h1,h2⟩:=adc e
    cases h2
    exact(aZC hr ht hs h1 (ň H x) (ň H i)).step
   ·rename_i n el ht
    have hv:=ň H x
    have hi:=ň H i
    split at e<;>try (cases e; done)
    rename_i id off k j hx' hi'
    split at e<;>try (cases e; done)
    rename_i sz hs
    rw[adz] at e
    obtain⟨q,h1,h2⟩:=adc e
    obtain⟨rfl,_,hb⟩:=awW h1
    cases h2
    rw[hx'] at hv
    rw[hi'] at hi
    have hi:a.eval i=.int k (q:Int):=hi
    rw[hi]
    have:=(aEY hr ht (j:=(q:Int)) (k:=k) ⟨by omega,by omega⟩ hs hv).step
    simpa using this
 | index t x i =>
   rw[hop] at e
   simp only[opR,opK] at e
   have hx:execOp a.eval o=(do let u ←Instr.index t (a.eval x) (a.eval i); pure (.value u)):=by unfold execOp; rw[hop]
   rw[hx]
   have hv:=ň H x
   have hi:=ň H i
   split at e<;>try (cases e; done)
   rename_i n el cs k j ht hx' hi'
   rw[adz] at e
   obtain⟨q,h1,h2⟩:=adc e
   obtain⟨rfl,_,hb⟩:=awW h1
   split at h2<;>try (cases h2; done)
   rename_i agg m hl
   split at h2<;>try (cases h2; done)
   rename_i ds hg
   split at h2<;>try (cases h2; done)
   rename_i v' hm
   cases h2
   rw[hx'] at hv
   rw[hi'] at hi
   have hi:a.eval i=.int k (q:Int):=hi
   rw[hi]
   exact(aSf hr ht (j:=(q:Int)) (k:=k) ⟨by omega,by omega⟩ hl (by simpa using hg) hm hv).step
 | lookup t m i ok =>
   rw[hop] at e
   simp only[opR,opK] at e
   rw[aga] at e
   obtain⟨v',h1,h2⟩:=adc e
   cases h2
   have hx:execOp a.eval o=(do let u ←Instr.lookup t (a.eval m) (a.eval i) ok; pure (.value u)):=by unfold execOp; rw[hop]
   rw[hx]
   exact(aW5 hr h1 (ň H m) (ň H i)).step
 | mapUpdate t m i x =>
   rw[hop] at e
   simp only[opR,opK] at e
   rw[ago] at e
   obtain⟨h',h1,h2⟩:=adc e
   cases h2
   have hx:execOp a.eval o=(do Instr.mapUpdate t (a.eval m) (a.eval i) (a.eval x); pure .skip):=by unfold execOp; rw[hop]
   rw[hx]
   exact aNo (aOr hr h1 (ň H m) (ň H i) (ň H x))
 | extract x i =>
   rw[hop] at e
   simp only[opR,opK] at e
   have hv:=ň H x
   split at e<;>try (cases e; done)
   rename_i vs hvs
   split at e<;>try (cases e; done)
   rename_i v' hv'
   cases e
   rw[hvs] at hv
   obtain⟨us,hu,h2⟩:=hv
   obtain⟨u,h3,h4⟩:=h2.get hv'
   refine aVK.still hr (u:=u) (by unfold execOp; rw[hop]; simp only[hu]; simp at h3; simp[Instr.extract,h3]) ?_
   cases ht:v.isTup with
   | true =>
     cases v<;>try cases ht
     exact h4.elim
   |false=>rw[ayQ ht]; exact h4
 | call c =>
   obtain⟨f,args,tys⟩:=c
   rw[hop] at e
   cases f with
   |value f=>cases e
   |invoke r n=>cases e
   | builtin b =>
     simp only[opR,opK] at e
     split at e
     ·-- len
      rename_i x t rest hargs htys
      rw[apP] at e
      obtain⟨v',h1,h2⟩:=adc e
      cases h2
      rw[aeP (S:=S) (f:=Builtin.len_) hop (fun _ _=>rfl),arr1 hargs,show Array.map a.eval #[x]=#[a.eval x] by simp]
      have ht0:tys[0]?=some t:=by rw[←Array.getElem?_toList,htys]; rfl
      exact(len_ok hr h1 (ň H x) ht0).step
     ·rename_i s x t t' hargs htys
      obtain⟨h1,h2⟩:=hn (by rw[hop]; rfl)
      rw[aeP (S:=S) (f:=Builtin.append_) hop (fun _ _=>rfl),arr2 hargs,arr2 htys,show Array.map a.eval #[s,x]=#[a.eval s,a.eval x] by simp]
      split at e
      ·rename_i htt
       have htt:=eq_of_beq htt
       subst htt
       rw[amL] at e
       obtain⟨⟨v',h'⟩,h3,h4⟩:=adc e
       cases h4
       exact(aYw hr h1 h2 h3 (ň H s) (ň H x)).step
      ·split at e<;>try (cases e; done)
       rename_i hu
       rw[apu] at e
       obtain⟨⟨v',h'⟩,h3,h4⟩:=adc e
       cases h4
       exact(aYY hr h1 h2 hu h3 (ň H s) (ň H x)).step
     ·rename_i x t hargs htys
      split at e<;>try (cases e; done)
      rename_i d hd
      rw[aqc] at e
      obtain⟨h',h1,h2⟩:=adc e
      cases h2
      rw[aeP (S:=S) (f:=Builtin.clear_) hop (fun _ _=>rfl),arr1 hargs,show Array.map a.eval #[x]=#[a.eval x] by simp]
      have ht0:tys[0]?=some t:=by rw[←Array.getElem?_toList,htys]; rfl
      exact(aZY ht0 hr h1 (by rw[hd]; rfl) (ň H x)).step
     ·rename_i x t rest hargs htys
      split at e<;>try (cases e; done)
      rename_i el ht hx
      cases e
      have hv:=ň H x
      rw[hx] at hv
      have hv:a.eval x=.slice none 0 0:=hv
      rw[aeP (S:=S) (f:=Builtin.cap_) hop (fun _ _=>rfl),arr1 hargs]
      have ht0:tys[0]?=some t:=by rw[←Array.getElem?_toList,htys]; rfl
      exact(ad4.still (v:=.int .i64 0) (u:=.int .i64 0) hr (by simp[Builtin.cap_,ht0,hv,run_underlying ht,goInt]) rfl).step
     ·rename_i x xs hargs
      rw[ado] at e
      obtain⟨v',h1,h2⟩:=adc e
      cases h2
      rw[aeP (S:=S) (f:=Builtin.min_) hop (fun _ _=>rfl)]
      obtain⟨u,h3,h4⟩:=aCs (P:=P) (f:=Builtin.min2) (gt:=false) (fun k p q=>aZe k p q) (xs.map (ev S.t)) (xs.map a.eval) _ v (a.eval x) h1 (ň H x) (Ė.of_map fun y _=>ň H y)
      refine(ad4.still hr ?_ h4).step
      simp only[Builtin.min_,Array.toList_map,hargs,List.map_cons]
      exact h3
     ·rename_i x xs hargs
      rw[ado] at e
      obtain⟨v',h1,h2⟩:=adc e
      cases h2
      rw[aeP (S:=S) (f:=Builtin.max_) hop (fun _ _=>rfl)]
      obtain⟨u,h3,h4⟩:=aCs (P:=P) (f:=Builtin.max2) (gt:=true) (fun k p q=>aZf k p q) (xs.map (ev S.t)) (xs.map a.eval) _ v (a.eval x) h1 (ň H x) (Ė.of_map fun y _=>ň H y)
      refine(ad4.still hr ?_ h4).step
      simp only[Builtin.max_,Array.toList_map,hargs,List.map_cons]
      exact h3
     ·cases e
 |_=>rw[hop] at e; cases e
end
end Go.Am
end
noncomputable section
namespace Go.Am
variable [ò]
def ť (nid:Nat) (h h':List Blk):Prop:=∀j,j≠nid→lkB h j=.dead→lkB h' j=.dead
theorem ť.refl (nid:Nat) (h:List Blk):ť nid h h:=fun _ _ hd=>hd
theorem ť.upd {nid id:Nat} {h:List Blk} (B:Blk) (hl:id=nid∨lkB h id≠.dead):ť nid h (ņ h id B):=fun j hj hd=>by
 rw[đ]
 ·exact hd
 ·rintro rfl
  rcases hl with rfl|hl
  ·exact hj rfl
  ·exact hl hd
theorem ť.trans {nid:Nat} {h h' h'':List Blk} (h1:ť nid h h') (h2:ť nid h' h''):ť nid h h'':=fun j hj hd=>h2 j hj (h1 j hj hd)
theorem ť.frz {nid:Nat} {h:List Blk} (v:AV):ť nid h (frz h v):=fun _ _ hd=>aTO hd
theorem ť.frzA {nid:Nat} {h:List Blk} (ps:List (Nat×AV)):ť nid h (frzA h ps):=fun _ _ hd=>aE1 ps hd
theorem ash {h:List Blk} {id:Nat} {B:Blk} (hl:lkB h id=B) (hB:B≠.dead):lkB h id≠.dead:=by rw[hl]; exact hB
theorem a1q {v:AV} {id:Nat} {h:List Blk} {k u:Ty} {es:List (Val k×Val u)} (hl:lkB h id=.map k u es):lkB (frz h v) id=.map k u es:=by
 unfold frz; split
 ·exact aMx _ hl
 ·exact aTQ hl
theorem aIc {P:Program} {h h':List Blk} {t:TypeId} {a v:AV} {nid:Nat} (h1:amP P h t a v some=some h'):ť nid h h':=by
 unfold amP at h1
 (repeat' split at h1)<;>first
  |(cases h1; done)
  |(cases h1; exact ť.upd _ (.inr (ash ‹lkB h _=.cells _› (by simp))))
  |(cases h1; exact(ť.frz _).trans (ť.upd _ (.inr (ash ‹lkB (frz h _) _=.row _ _ _ _› (by simp)))))
theorem aWA {P:Program} {S S':St} {o:Op} {nid:Nat} {eat:Bool} {v:AV} (e:opR P S nid eat o=some (v,S')):ť nid S.h S'.h:=by
 unfold opR opK at e
 dsimp only at e
 (repeat' split at e)<;>first
  |(cases e; done)
  |(cases e; exact ť.refl _ _)
  |(cases e; exact ť.upd _ (.inl rfl))
  |(cases e; exact(ť.frzA _).trans (ť.upd _ (.inl rfl)))
  |(rw[ak5] at e; obtain⟨v',h1,h2⟩:=adc e; cases h2; exact ť.refl _ _)
  |(rw[aqi] at e; obtain⟨v',h1,h2⟩:=adc e; cases h2; exact ť.refl _ _)
  |(rw[atj] at e; obtain⟨v',h1,h2⟩:=adc e; cases h2; exact ť.refl _ _)
  |(rw[ahN] at e; obtain⟨v',h1,h2⟩:=adc e; cases h2; exact ť.refl _ _)
  |(rw[ahT] at e; obtain⟨v',h1,h2⟩:=adc e; cases h2; exact ť.refl _ _)
  |(rw[aga] at e; obtain⟨v',h1,h2⟩:=adc e; cases h2; exact ť.refl _ _)
  |(rw[apP] at e; obtain⟨v',h1,h2⟩:=adc e; cases h2; exact ť.refl _ _)
  |(rw[ado] at e; obtain⟨v',h1,h2⟩:=adc e; cases h2; exact ť.refl _ _)
  |(rw[ahL] at e; obtain⟨h',h1,h2⟩:=adc e; cases h2; exact aIc h1)
  | (rw [ahL] at e; obtain ⟨h', h1, h2⟩ := adc e; cases h2
     exact(ť.upd _ (.inr (ash ‹lkB S.h _=.row _ _ _ _› (by simp)))).trans (aIc h1))
  | (rw [apy] at e; obtain ⟨⟨v', h'⟩, h1, h2⟩ := adc e; cases h2
     unfold aiO at h1
     (repeat' split at h1)<;>first
      |(cases h1; done)
      |(cases h1; exact ť.refl _ _)
      |(cases h1; exact ť.upd _ (.inr (ash ‹lkB S.h _=.row _ _ _ _› (by simp)))))
  | (rw [amL] at e; obtain ⟨⟨v', h'⟩, h1, h2⟩ := adc e; cases h2
     unfold apo at h1
     (repeat' split at h1)<;>first
      |(cases h1; done)
      |(cases h1; exact ť.upd _ (.inl rfl))
      |(cases h1; exact ť.upd _ (.inr (ash ‹lkB S.h _=.row _ _ _ _› (by simp)))))
  | (rw [apu] at e; obtain ⟨⟨v', h'⟩, h1, h2⟩ := adc e; cases h2
     unfold ayU at h1
     (repeat' split at h1)<;>first
      |(cases h1; done)
      |(cases h1; exact ť.upd _ (.inl rfl)))
  | (rw [aqc] at e; obtain ⟨h', h1, h2⟩ := adc e; cases h2
     unfold az9 at h1
     (repeat' split at h1)<;>first
      |(cases h1; done)
      |(cases h1; exact ť.refl _ _)
      |(cases h1; exact ť.upd _ (.inr (ash ‹lkB S.h _=.row _ _ _ _› (by simp)))))
  | (rw [adz] at e; obtain ⟨q, h1, h2⟩ := adc e
     (repeat' split at h2)<;>first
      |(cases h2; done)
      |(cases h2; exact ť.refl _ _))
  | (rw [ago] at e; obtain ⟨h', h1, h2⟩ := adc e; cases h2
     unfold ae3 at h1
     (repeat' split at h1)<;>first
      |(cases h1; done)
      |(cases h1; exact(ť.frz _).trans (ť.upd _ (.inr (ash (a1q ‹lkB S.h _=.map _ _ _›) (by simp))))))
end Go.Am
end
noncomputable section
namespace Go.Am
variable [ò]
section
variable {ρ:Type} {ν ν':Nat→Value} {h h':List Blk} {w w':World} {P:Program}
theorem Ev.same (hh:∀id,lkB h' id=lkB h id) (hw:w'.heap=w.heap) (h1:w'.os=w.os) (h2:w'.tape=w.tape) (h3:w'.output=w.output) (m:Nat):Ev m ν h w ν h' w' :=
 ⟨h1,h2,h3,by rw[hw]; exact Nat.le_refl _,fun b _ hb=>⟨by rw[hw],fun⟨id,q1,q2⟩=>hb ⟨id,by rwa [hh] at q1,q2⟩⟩,fun id _=>by rw[hh]; exact Blk.next_refl _ _ _⟩
theorem HR.same (H:HR ν h w) (hh:∀id,lkB h' id=lkB h id) (hw:w'.heap=w.heap) (h1:w'.os=w.os) (h2:w'.tape=w.tape) (h3:w'.output=w.output):HR ν h' w':=by
 refine⟨fun id=>?_,fun i j b q1 q2=>H.inj i j b (by rwa [hh] at q1) (by rwa [hh] at q2),fun b hb=>by rw[hw]; exact H.ghlt b hb,fun id b q1=>H.ghne id b (by rwa [hh] at q1)⟩
 rw[hh]
 exact BR.ev (Ev.same hh hw h1 h2 h3 _) rfl (fun b _ _ _=>by rw[hw]) (H.blk id)
theorem Sim.same {S:St} {a:Act} (H:Sim ν S a w) (hh:∀id,lkB h' id=lkB S.h id) (hw:w'.heap=w.heap) (h1:w'.os=w.os) (h2:w'.tape=w.tape) (h3:w'.output=w.output):Sim ν {t:=S.t,h:=h'} a w' :=
 ⟨H.defers,H.len,fun i=>(H.tmps i).ev (Ev.same hh hw h1 h2 h3 _),H.heap.same hh hw h1 h2 h3⟩
theorem aI4:∀(h:List Blk) (d:Nat),h.length≤d→lkB h d=.dead
 |[],_,_=>rfl
 |x::xs,0,h=>by simp at h
 |x::xs,d+1,h=>by simpa[lkB] using aI4 xs d (by simpa using h)
theorem aMq:∀(h:List Blk) (n id:Nat),lkB (h++List.replicate n .dead) id=lkB h id
 |[],0,_=>rfl
 |[],n+1,0=>rfl
 |[],n+1,id+1=>by simpa[List.replicate_succ,lkB] using aMq [] n id
 |x::xs,n,0=>rfl
 |x::xs,n,id+1=>by simpa[lkB] using aMq xs n id
abbrev fen:Fence:={Fence.wide with round:=ò.Q}
def aQR (P:Program) (L:Nat) (call:List Nat→Bool→Nat→List AV→List Blk→(AV→List Blk→Option ρ)→Option ρ):Prop :=
 ∀path draw g args h (K:AV→List Blk→Option ρ) r,path.length=L→call path draw g args h K=some r→∀ν w vals,HR ν h w→Ė (VR ν h w) args vals →
  (∃fn c,P.funcs[g]?=some fn∧fn.body=some c) ∧
  CallsIn Fence.wide 0 P g vals.toArray w fun e w'=>∃ν' h' v u,e=.returned u∧VR ν' h' w' v u∧HR ν' h' w'∧Ev h.length ν h w ν' h' w'∧h.length≤h'.length∧(∀j,j<h.length→lkB h j=.dead→lkB h' j=.dead)∧K v h'=some r
def ayT (P:Program) (clone:Nat→Bool):Prop :=
 ∀g,clone g=true→∀fz S nid x v S',aph P g fz S nid x (fun v S=>some (v,S))=some (v,S')→∀ν w u,HR ν S.h w→VR ν S.h w x u→nid<S.h.length→lkB S.h nid=.dead →
  (∃fn c,P.funcs[g]?=some fn∧fn.body=some c) ∧
  CallsIn Fence.wide 0 P g #[u] w fun e w'=>∃ν' u',e=.returned u'∧VR ν' S'.h w' v u'∧HR ν' S'.h w'∧Ev S.h.length ν S.h w ν' S'.h w'∧S.h.length≤S'.h.length∧ť nid S.h S'.h∧S'.t=S.t
theorem ayF (P:Program) (g:Nat) (fz:Bool) (S:St) (nid:Nat) (x:AV) (K:AV→St→Option ρ):aph P g fz S nid x K=(aph P g fz S nid x fun v S=>some (v,S)).bind fun r=>K r.1 r.2:=by
 unfold aph; (repeat' split)<;>rfl
def Aft (m:Nat) (ν:Nat→Value) (h:List Blk) (w:World) (K:St→Option ρ) (r:ρ) (a':Act) (w':World):Prop :=
 ∃ν' S',Sim ν' S' a' w'∧Ev m ν h w ν' S'.h w'∧h.length≤S'.h.length∧K S'=some r
theorem Aft.trans {m m':Nat} {K:St→Option ρ} {r:ρ} {a':Act} {ν ν₁:Nat→Value} {h h₁:List Blk} {w w₁ w':World} (e:Ev m ν h w ν₁ h₁ w₁) (hl:h.length≤h₁.length) (hm:m≤m') (ha:Aft m' ν₁ h₁ w₁ K r a' w'):Aft m ν h w K r a' w':=by
 obtain⟨ν',S',h1,h2,h3,h4⟩:=ha
 exact⟨ν',S',h1,e.trans h2 hm,Nat.le_trans hl h3,h4⟩
theorem op_nid {S:St} {o:Op} {nid nid':Nat} {eat:Bool} {clone:Nat→Bool} (hal:ċ clone o=false):opR P S nid eat o=opR P S nid' eat o:=by
 cases o<;>try first|rfl|(cases hal; done)
 rename_i c
 obtain⟨f,args,tys⟩:=c
 cases f<;>try rfl
 rename_i b
 cases b<;>first|(cases hal; done)|rfl|(unfold opR opK; dsimp only; (repeat' split)<;>first|rfl|simp_all)
theorem aQ8 {E : Env ρ} {call : List Nat → Bool → Nat → List AV → List Blk → (AV → List Blk → Option ρ) → Option ρ} {L : Nat} (hcall : aQR E.P L call) (hP : ∀ (f : Nat) (fn : Func), E.P.funcs[f]? = some fn → (fn.name == "runtime.NumGoroutine") = false)
 (hclone:ayT E.P E.clone)
 {fid:Nat} {path:List Nat} {draw:Bool} {S:St} {a:Act} {nid:Nat} {o:Oper} {K:AV→St→Option ρ} {r:ρ} (hp:path.length=L) (H:Sim ν S a w) (hn:ċ E.clone o.op=true→nid<S.h.length∧lkB S.h nid=.dead)
 (e:aeo E call fid path draw S nid o K=some r) {next:Act→World→Prop} {Q:Exit→Act→World→Prop}
 (hk:∀(ν':Nat→Value) (w':World) (u:Value) (v:AV) (S':St),VR ν' S'.h w' v u→HR ν' S'.h w'→Ev S.h.length ν S.h w ν' S'.h w'→S.h.length≤S'.h.length→(∀j,j<S.h.length→j≠nid∨ċ E.clone o.op=false→lkB S.h j=.dead→lkB S'.h j=.dead)→S'.t=S.t→K v S'=some r→next (a.put o.dst u) w') :
 o.wpIn fen 0 E.P a w next Q:=by
 refine⟨fun _ _=>trivial,?_⟩
 have hnd:∀c,o.op≠.defer c:=by
  intro c hc
  unfold aeo at e
  split at e<;>try (cases e; done)
  split at e
  ·rename_i hop
   rw[hc] at hop; cases hop
  ·rw[hc] at e
   cases e
 rw[Oper.semAt_eq _ _ _ hnd]
 have plain:∀v S',opR E.P S nid (aSo E draw fid o) o.op=some (v,S')→K v S'=some r→o.uponIn fen 0 E.P a next Q ((execOp a.eval o).run E.P w):=by
  intro v S' h1 h2
  obtain⟨ν',w',u,h3,h4,h5,h6,h7,h8⟩:=aZk (clone:=E.clone) H hn h1
  have:=hk ν' w' u v S' h4 h5 h6 (Nat.le_of_eq h7.symm) (fun j _ hj hd=>by
   rcases hj with hj|hal
   ·exact aWA h1 j hj hd
   ·rw[op_nid (nid':=j+1) hal] at h1
    exact aWA h1 j (by omega) hd) h8 h2
  rcases h3 with h3|⟨h3,rfl⟩
  ·rw[h3]; exact this
  ·rw[h3]; exact this
 unfold aeo at e
 split at e<;>try (cases e; done)
 split at e
 ·rename_i f args tys hop
  split at e<;>try (cases e; done)
  rename_i g first caps hf
  have hfv:=ň H f
  rw[hf] at hfv
  obtain⟨fs,cs,hfe,hfirst,hcaps⟩:=hfv
  split at e
  ·rename_i hcl
   split at e<;>try (cases e; done)
   rename_i x hargs
   rw[ayF] at e
   obtain⟨⟨v,S'⟩,h1,h2⟩:=adc e
   simp only[Bool.and_eq_true] at hcl
   obtain⟨hcl,hlit⟩:=hcl
   have hfg:f=.func g:=by
    cases f<;>try (cases hlit; done)
    simp only[ev] at hf
    injection hf with q1
    injection q1 with q1
    rw[q1]
   subst hfg
   obtain⟨hn1,hn2⟩:=hn (by rw[hop]; exact hcl)
   obtain⟨⟨fn,c,hfn,hbody⟩,hc⟩:=hclone g hcl _ S nid _ v S' h1 ν w _ H.heap (ň H x) hn1 hn2
   have hx:(execOp a.eval o).run E.P w=.ok (.enter g #[a.eval x]) w:=by
    unfold execOp
    rw[hop,arr1 hargs]
    simp only[resolve,Act.eval,Deferred.ofValue,pure_bind,invoke,callFunc,Sem.run_bind,run_program,Result.andThen_ok,hfn,hP g fn hfn,hbody]
    simp only[Bool.false_eq_true,if_false,Option.isNone_some]
    show Result.ok (Next.enter g _) w=_
    congr 2
    apply Array.ext'
    cases x<;>simp[Act.eval]
   rw[hx,Oper.uponIn_enter]
   refine⟨fun hf=>(by cases hf),hc.mono fun e' w' hw=>?_⟩
   obtain⟨ν',u',rfl,g1,g2,g3,g4,g6,g5⟩:=hw
   exact hk ν' w' u' v S' g1 g2 g3 g4 (fun j _ hj hd=>g6 j (hj.resolve_right (by rw[hop]; exact fun hf=>by rw[show ċ E.clone (.call ⟨.value (.func g),args,tys⟩)=E.clone g from rfl,hcl] at hf; cases hf)) hd) g5 h2
  ·rename_i hcl
   have hargs:Ė (VR ν S.h w) (first++(args.toList.map (ev S.t)++caps)) (fs.toList++(args.toList.map a.eval++cs.toList)) :=
    (hfirst.mono fun _ _ q=>q.up.up).append ((Ė.of_map fun x _=>ň H x).append (hcaps.mono fun _ _ q=>q.up.up))
   obtain⟨⟨fn,c,hfn,hbody⟩,hc⟩:=hcall path draw g _ _ _ r hp e ν w _ H.heap hargs
   have hx:(execOp a.eval o).run E.P w=.ok (.enter g (fs.toList++(args.toList.map a.eval++cs.toList)).toArray) w:=by
    unfold execOp
    rw[hop]
    simp only[resolve,hfe,Deferred.ofValue,pure_bind,invoke,callFunc,Sem.run_bind,run_program,Result.andThen_ok,hfn,hP g fn hfn,hbody]
    simp only[Bool.false_eq_true,if_false,Option.isNone_some]
    show Result.ok (Next.enter g _) w=_
    congr 2
    apply Array.ext'
    simp
   rw[hx,Oper.uponIn_enter]
   refine⟨fun hf=>(by cases hf),hc.mono fun e' w' hw=>?_⟩
   obtain⟨ν',h',v,u,rfl,h1,h2,h3,h4,h6,h5⟩:=hw
   exact hk ν' w' u v {t:=S.t,h:=h'} h1 h2 h3 h4 (fun j hj _ hd=>h6 j hj hd) rfl h5
 ·rename_i op hne
  rw[aRj] at e
  obtain⟨⟨v,S'⟩,h1,h2⟩:=adc e
  exact plain v S' h1 h2
theorem atm:∀(t:List AV) (d:Nat),upd t d (lk t d)=t
 |[],_=>rfl
 |_::_,0=>rfl
 |x::t,d+1=>by simp[upd,lk,atm t d]
def a0q (n nid:Nat) (h:List Blk):Prop:=∀j,nid≤j→j<nid+n→j<h.length∧lkB h j=.dead
theorem agy {clone:Nat→Bool} {o:Oper} {os:List Oper}:adn clone (o::os)=bif ċ clone o.op then adn clone os+1 else adn clone os:=rfl
theorem aJe {all:List Oper} {o:Oper} {j:Nat} {want:Bool}:∀{l:List Oper},ajG all l=true→o∈l→o.guard=some (j,want)→∃p d,all[j]?=some p∧p.dst=some d
 |[],_,hm,_=>by cases hm
 | x :: l, hg, hm, he => by
   simp only[ajG,Bool.and_eq_true] at hg
   rcases List.mem_cons.1 hm with rfl|hm
   ·have h1:=hg.1
    rw[he] at h1
    simp only at h1
    split at h1
    ·rename_i p hp
     obtain⟨d,hd⟩:=Option.isSome_iff_exists.1 h1
     exact⟨p,d,hp,hd⟩
    ·cases h1
   ·exact aJe hg.2 hm he
theorem aUu {ops:Array Oper} {tmps:Array Value} {j d:Nat} {p:Oper} (hp:ops.toList[j]?=some p) (hd:p.dst=some d) :
 (∀b,tmps.getD d undef=.bool b→yielded ops tmps j=some b)∧(tmps.getD d undef=undef→yielded ops tmps j=none):=by
 have hp':ops[j]?=some p:=by simpa using hp
 constructor
 ·intro b hb
  unfold yielded
  rw[hp']
  simp only[Option.bind_some,hd]
  cases ht:tmps[d]? with
  |none=>simp[Array.getD_eq_getD_getElem?,ht,undef] at hb
  |some v=>simp[Array.getD_eq_getD_getElem?,ht] at hb; subst hb; rfl
 ·intro hb
  unfold yielded
  rw[hp']
  simp only[Option.bind_some,hd]
  cases ht:tmps[d]? with
  |none=>rfl
  |some v=>simp[Array.getD_eq_getD_getElem?,ht] at hb; subst hb; rfl
def arX (E:Env ρ) (call:List Nat→Bool→Nat→List AV→List Blk→(AV→List Blk→Option ρ)→Option ρ) (fid:Nat) (path:List Nat) (draw:Bool) (all:List Oper) (i nid:Nat) (o:Oper) (S:St) (K:St→Option ρ):Option ρ :=
 match o.guard with
 |none=>aeo E call fid (path++[i]) draw S nid o fun v S=>K {t:=ė S.t o.dst v,h:=S.h}
 | some (j, want) => match lk S.t (ak9 all j) with
   | .bool b => match b == want with
     |true=>aeo E call fid (path++[i]) draw S nid o fun v S=>K {t:=ė S.t o.dst v,h:=S.h}
     |false=>K {t:=ė S.t o.dst .und,h:=S.h}
   |.und=>K {t:=ė S.t o.dst .und,h:=S.h}
   |_=>none
theorem aWw {E:Env ρ} {call:List Nat→Bool→Nat→List AV→List Blk→(AV→List Blk→Option ρ)→Option ρ} {fid:Nat} {path:List Nat} {draw:Bool} {all:List Oper} {o:Oper} {os:List Oper} {i nid:Nat} {S:St} {K:St→Option ρ} :
 aUJ E call fid path draw all (o::os) i nid S K=arX E call fid path draw all i nid o S fun S'=>aUJ E call fid path draw all os (i+1) (bif ċ E.clone o.op then nid+1 else nid) S' K:=by
 simp only[aUJ,arX]
 have hself:∀d b,lk S.t d=.bool b→({t:=upd S.t d (.bool b),h:=S.h}:St)=S:=fun d b hb=>by rw[←hb,atm]
 have htself:∀d b,lk S.t d=.bool b→upd S.t d (.bool b)=S.t:=fun d b hb=>by rw[←hb,atm]
 cases o.guard with
 |none=>rfl
 | some g =>
   obtain⟨j,want⟩:=g
   simp only
   cases hb:lk S.t (ak9 all j)<;>try rfl
   rename_i b
   have h1:=hself _ b hb
   have h2:=htself _ b hb
   cases b<;>cases want<;>simp only[h1,h2]<;>rfl
theorem aBU {E : Env ρ} {call : List Nat → Bool → Nat → List AV → List Blk → (AV → List Blk → Option ρ) → Option ρ} {L : Nat} (hcall : aQR E.P L call) (hP : ∀ (f : Nat) (fn : Func), E.P.funcs[f]? = some fn → (fn.name == "runtime.NumGoroutine") = false)
 (hclone:ayT E.P E.clone) {fid:Nat} {path:List Nat} {draw:Bool} {ops:Array Oper} (hg:ajG ops.toList ops.toList=true)
 {S:St} {a:Act} {nid i:Nat} {o:Oper} {K:St→Option ρ} {r:ρ} (hp:path.length+1=L) (ho:ops[i]?=some o) (H:Sim ν S a w) (hn:ċ E.clone o.op=true→nid<S.h.length∧lkB S.h nid=.dead)
 (e:arX E call fid path draw ops.toList i nid o S K=some r) {next:Act→World→Prop} {Q:Exit→Act→World→Prop}
 (hk:∀(ν':Nat→Value) (w':World) (u:Value) (v:AV) (S':St),VR ν' S'.h w' v u→HR ν' S'.h w'→Ev S.h.length ν S.h w ν' S'.h w'→S.h.length≤S'.h.length→(∀j,j<S.h.length→j≠nid∨ċ E.clone o.op=false→lkB S.h j=.dead→lkB S'.h j=.dead)→S'.t=S.t →
  K {t:=ė S'.t o.dst v,h:=S'.h}=some r→next (a.put o.dst u) w') :
 wpOpIn fen 0 E.P ops Q i next a w:=by
 have run:aeo E call fid (path++[i]) draw S nid o (fun v S=>K {t:=ė S.t o.dst v,h:=S.h})=some r →
  o.wpIn fen 0 E.P a w next Q:=fun h1=>aQ8 hcall hP hclone (by simpa using hp) H hn h1 hk
 -- it is left out
 have skip:K {t:=ė S.t o.dst .und,h:=S.h}=some r→next (a.put o.dst undef) w :=
  fun h1=>hk ν w undef .und S rfl H.heap (Ev.refl _ _ _ _) (Nat.le_refl _) (fun _ _ _ hd=>hd) rfl h1
 have hmem:o∈ops.toList:=by
  have:ops.toList[i]?=some o:=by simpa using ho
  exact List.mem_of_getElem? this
 unfold wpOpIn
 rw[ho]
 simp only[arX] at e
 split at e
 ·rename_i hgd
  have hw:Region.wanted o (yielded ops a.tmps)=true:=by simp[Region.wanted,hgd]
  simp only[hw,if_true]
  exact run e
 ·rename_i j want hgd
  obtain⟨p,d,hp,hd⟩:=aJe hg hmem hgd
  obtain⟨hy1,hy2⟩:=aUu (tmps:=a.tmps) hp hd
  have hslot:ak9 ops.toList j=d:=by simp[ak9,hp,hd]
  rw[hslot] at e
  have hv:=H.tmps d
  split at e
  ·rename_i b hb
   rw[hb] at hv
   have hyb:=hy1 b hv
   split at e
   ·rename_i hbw
    have hw:Region.wanted o (yielded ops a.tmps)=true:=by
     simp only[beq_iff_eq] at hbw
     simp[Region.wanted,hgd,hyb,hbw]
    simp only[hw,if_true]
    exact run e
   ·rename_i hbw
    have hw:Region.wanted o (yielded ops a.tmps)=false:=by
     simp only[beq_eq_false_iff_ne] at hbw
     simpa[Region.wanted,hgd,hyb] using hbw
    simp only[hw,Bool.false_eq_true,if_false]
    exact⟨fun _ _=>trivial,skip e⟩
  ·rename_i hb
   rw[hb] at hv
   have hw:Region.wanted o (yielded ops a.tmps)=false:=by simp[Region.wanted,hgd,hy2 hv]
   simp only[hw,Bool.false_eq_true,if_false]
   exact⟨fun _ _=>trivial,skip e⟩
  ·cases e
theorem aWv {E : Env ρ} {call : List Nat → Bool → Nat → List AV → List Blk → (AV → List Blk → Option ρ) → Option ρ} {L : Nat} (hcall : aQR E.P L call) (hP : ∀ (f : Nat) (fn : Func), E.P.funcs[f]? = some fn → (fn.name == "runtime.NumGoroutine") = false)
 (hclone:ayT E.P E.clone) {fid:Nat} {path:List Nat} {draw:Bool} {ops:Array Oper} (hg:ajG ops.toList ops.toList=true)
 {S:St} {a:Act} {nid i:Nat} {o:Oper} {os:List Oper} {K:St→Option ρ} {r:ρ} (hp:path.length+1=L) (ho:ops[i]?=some o) (H:Sim ν S a w) (hn:a0q (adn E.clone (o::os)) nid S.h)
 (e:aUJ E call fid path draw ops.toList (o::os) i nid S K=some r) {next:Act→World→Prop} {Q:Exit→Act→World→Prop}
 (hk:∀(ν':Nat→Value) (w':World) (u:Value) (v:AV) (S':St),VR ν' S'.h w' v u→HR ν' S'.h w'→Ev S.h.length ν S.h w ν' S'.h w'→S.h.length≤S'.h.length→a0q (adn E.clone os) (bif ċ E.clone o.op then nid+1 else nid) S'.h→(∀j,j<S.h.length→j<nid→lkB S.h j=.dead→lkB S'.h j=.dead)→S'.t=S.t →
  aUJ E call fid path draw ops.toList os (i+1) (bif ċ E.clone o.op then nid+1 else nid) {t:=ė S'.t o.dst v,h:=S'.h} K=some r→next (a.put o.dst u) w') :
 wpOpIn fen 0 E.P ops Q i next a w:=by
 have hn0:ċ E.clone o.op=true→nid<S.h.length∧lkB S.h nid=.dead:=fun hal=>hn nid (Nat.le_refl _) (by rw[agy,hal]; simp)
 have hrest:a0q (adn E.clone os) (bif ċ E.clone o.op then nid+1 else nid) S.h:=fun j h1 h2=>by
  cases hal:ċ E.clone o.op with
  |true=>rw[hal] at h1 h2; exact hn j (by simp at h1; omega) (by rw[agy,hal]; simp at h2 ⊢; omega)
  |false=>rw[hal] at h1 h2; exact hn j (by simpa using h1) (by rw[agy,hal]; simpa using h2)
 rw[aWw] at e
 refine aBU hcall hP hclone hg hp ho H hn0 e fun ν' w' u v S' g1 g2 g3 g4 g5 g6 g7=>hk ν' w' u v S' g1 g2 g3 g4 (fun j h2 h3=>?_) (fun j hj hlt hd=>g5 j hj (.inl (by omega)) hd) g6 g7
 obtain⟨h4,h5⟩:=hrest j h2 h3
 refine⟨by omega,g5 j h4 ?_ h5⟩
 cases hal:ċ E.clone o.op with
 |true=>left; rw[hal] at h2; simp at h2; omega
 |false=>exact .inr rfl
end
end Go.Am
end
noncomputable section
namespace Go.Am
variable [ò]
section
variable {ρ:Type} {ν ν':Nat→Value} {h h':List Blk} {w w':World} {P:Program}
def Dd (m:Nat) (h h':List Blk):Prop:=∀j,j<m→lkB h j=.dead→lkB h' j=.dead
theorem Dd.refl (m:Nat) (h:List Blk):Dd m h h:=fun _ _ hd=>hd
theorem Dd.trans {m m':Nat} {h h' h'':List Blk} (h1:Dd m h h') (h2:Dd m' h' h'') (hm:m≤m'):Dd m h h'':=fun j hj hd=>h2 j (Nat.lt_of_lt_of_le hj hm) (h1 j hj hd)
def aVZ (m:Nat) (ν:Nat→Value) (h:List Blk) (w:World) (K:Exit→St→Option ρ) (r:ρ) (e:Exit) (a':Act) (w':World):Prop :=
 ∃ν' S',Sim ν' S' a' w'∧Ev m ν h w ν' S'.h w'∧m≤S'.h.length∧Dd m h S'.h∧K e S'=some r
theorem aVZ.trans {m m':Nat} {K:Exit→St→Option ρ} {r:ρ} {e:Exit} {a':Act} {ν₁:Nat→Value} {h₁:List Blk} {w₁:World} (ev:Ev m ν h w ν₁ h₁ w₁) (hd:Dd m h h₁) (hm:m≤m') (ha:aVZ m' ν₁ h₁ w₁ K r e a' w'):aVZ m ν h w K r e a' w':=by
 obtain⟨ν',S',h1,h2,h3,h4,h5⟩:=ha
 exact⟨ν',S',h1,ev.trans h2 hm,Nat.le_trans hm h3,hd.trans h4 hm,h5⟩
def aYN (E:Env ρ) (call:List Nat→Bool→Nat→List AV→List Blk→(AV→List Blk→Option ρ)→Option ρ):Prop :=
 (∀path draw g args h K,call path draw g args h K=none) ∨
 ((∀ f p, E.pure f = some p → ∀ path draw args h K, call path draw f args h K = aJT (draw && !E.fz f) p h args K) ∧
  (∀f,E.pure f=none→E.sort f=true→∀path draw args h K,call path draw f args h K=match args with|[x]=>aJM h x K|_=>none) ∧
  (∀f,E.pure f=none→E.sort f=false→E.compact f=true→∀path draw args h K,call path draw f args h K=match args with|[x]=>ahH h x K|_=>none))
def NormOk (m:Nat) (N:St→Option St):Prop:=∀(S S':St) (ν:Nat→Value) (a:Act) (w:World),N S=some S'→Sim ν S a w→m≤S.h.length→∃ν',Sim ν' S' a w∧Ev m ν S.h w ν' S'.h w∧m≤S'.h.length∧Dd m S.h S'.h
def aUp (E:Env ρ):Prop:=∀path fid rid m J,E.joins path fid rid m=some J→∃N,NormOk m N∧∀body rest,J body rest=body (fun S=>match N S with|some S'=>rest S'|none=>none)
theorem ż {E:Env ρ} (h:E.joins=fun _ _ _ _=>none):aUp E:=by
 intro path fid rid m J e
 rw[h] at e
 cases e
structure afG (E:Env ρ) (L:Nat) (call:List Nat→Bool→Nat→List AV→List Blk→(AV→List Blk→Option ρ)→Option ρ):Prop where
 pureEq:aYN E call
 call:aQR E.P L call
 plain : ∀ (f : Nat) (fn : Func), E.P.funcs[f]? = some fn → (fn.name == "runtime.NumGoroutine") = false
 clone:ayT E.P E.clone
 joins:aUp E
theorem aOe {E:Env ρ} {call:List Nat→Bool→Nat→List AV→List Blk→(AV→List Blk→Option ρ)→Option ρ} {L:Nat} (hE:afG E L call) {fid:Nat} {path:List Nat} {draw:Bool} {ops:Array Oper} (hp:path.length+1=L) (hg:ajG ops.toList ops.toList=true)
 {K:St→Option ρ} {r:ρ} {Q:Exit→Act→World→Prop} {m:Nat}:∀(os:List Oper) (i nid:Nat) (S:St) (a:Act) (ν:Nat→Value) (w:World),(∀k,os[k]?=ops[i+k]?)→Sim ν S a w→a0q (adn E.clone os) nid S.h→m≤nid→m≤S.h.length →
  aUJ E call fid path draw ops.toList os i nid S K=some r →
  (∀ν' S' a' w',Sim ν' S' a' w'→Ev m ν S.h w ν' S'.h w'→m≤S'.h.length→Dd m S.h S'.h→K S'=some r→Q .normal a' w') →
  wpOpsIn fen 0 E.P ops Q (List.range' i os.length) a w
 |[],i,nid,S,a,ν,w,_,H,_,_,hm,e,hQ=>hQ ν S a w H (Ev.refl _ _ _ _) hm (Dd.refl _ _) e
 | o :: os, i, nid, S, a, ν, w, ho, H, hn, hmn, hm, e, hQ => by
   rw[List.length_cons,List.range'_succ,wpOpsIn_cons]
   have ho0:ops[i]?=some o:=by have:=ho 0; simpa using this.symm
   refine aWv hE.call hE.plain hE.clone hg hp ho0 H hn e fun ν' w' u v S' h1 h2 h3 h4 h5 h8 h6 h7=>?_
   have hput:=H.put h3 h2 o.dst h1
   refine aOe hE hp hg os (i+1) _ {t:=ė S'.t o.dst v,h:=S'.h} _ ν' w' (fun k=>by have:=ho (k+1); rw[show i+1+k=i+(k+1) by omega]; simpa using this) (by rw[h6]; exact hput) h5 (by cases ċ E.clone o.op<;>simp<;>omega) (by simp; omega) h7
    fun ν'' S'' a'' w'' g1 g2 g3 g4 g5=>hQ ν'' S'' a'' w'' g1 ((h3.mono hm).trans g2 (Nat.le_refl _)) g3 (fun j hj hd=>g4 j hj (h8 j (by omega) (by omega) hd)) g5
theorem aRc {E:Env ρ} {call:List Nat→Bool→Nat→List AV→List Blk→(AV→List Blk→Option ρ)→Option ρ} {L:Nat} (hE:afG E L call) {fid rid:Nat} {path:List Nat} {ops:Array Oper} {S:St} {a:Act} {K:Exit→St→Option ρ} {r:ρ} {m:Nat} (hp:path.length+1=L)
 (e:aB6 E call fid path false ops.toList S (K .normal)=some r) (H:Sim ν S a w) (hm:m≤S.h.length):(Code.region rid ops false).wpIn fen 0 E.P (aVZ m ν S.h w K r) a w:=by
 unfold aB6 at e
 split at e<;>try (cases e; done)
 rename_i hg
 simp only[Bool.false_and,Bool.false_or,Bool.not_eq_false'] at hg
 apply wpIn_region
 have hpre:=fun id=>aMq S.h (adn E.clone ops.toList) id
 have H1:Sim ν {t:=S.t,h:=S.h++List.replicate (adn E.clone ops.toList) .dead} a w:=H.same hpre rfl rfl rfl rfl
 have ev0:Ev m ν S.h w ν (S.h++List.replicate (adn E.clone ops.toList) .dead) w:=Ev.same hpre rfl rfl rfl rfl m
 have:=aOe (m:=m) (Q:=aVZ m ν S.h w K r) hE hp hg ops.toList 0 S.h.length _ a ν w (fun k=>by simp) H1 (fun j h1 h2=>⟨by simp; omega,by simp only[hpre]; exact aI4 _ _ h1⟩) hm (by simp; omega) e
  (fun ν' S' a' w' g1 g2 g3 g4 g5=>⟨ν',S',g1,ev0.trans g2 (Nat.le_refl _),g3,fun j hj hd=>g4 j hj (by simp only[hpre]; exact hd),g5⟩)
 rw[List.range_eq_range']
 simpa using this
def afS (E:Env ρ) (L:Nat) (call:List Nat→Bool→Nat→List AV→List Blk→(AV→List Blk→Option ρ)→Option ρ):Prop :=
 ∀(fid rid:Nat) (path:List Nat) (ops:Array Oper) (S:St) (a:Act) (K:Exit→St→Option ρ) (r:ρ) (m:Nat) (ν:Nat→Value) (w:World),path.length+1=L →
  aB6 E call fid path true ops.toList S (K .normal)=some r→Sim ν S a w→m≤S.h.length→(Code.region rid ops true).wpIn fen 0 E.P (aVZ m ν S.h w K r) a w
def drawn:Code→Bool
 |.region _ _ d=>d
 |.seq a b=>drawn a||drawn b
 |.cond _ a b=>drawn a||drawn b
 |.block _ b=>drawn b
 |.scope b=>drawn b
 |_=>false
def noGoto (Q:Exit→Act→World→Prop):Exit→Act→World→Prop
 |.goto _,_,_=>False
 |e,a,w=>Q e a w
section
variable {F:Fence} {n:Nat} {P:Program} {Q:Exit→Act→World→Prop} {a:Act} {w:World}
theorem afT {b:Frame} {k:List Item} {cs:List Frame} {c:Code}:step P (lone (b.atR a (.code (.scope c)::k)) cs w)=.next (lone (b.atR a (.code c::.inScope c::k)) cs w) :=
 step_lone_go (by simp[stepG,stepG.exec,Frame.atR])
theorem aJJ {b:Frame} {k:List Item} {cs:List Frame} {c:Code}:step P (lone (b.atR a (.inScope c::k)) cs w)=.next (lone (b.atR a k) cs w) :=
 step_lone_go (by simp[stepG,stepG.exec,Frame.atR])
theorem aUv {c:Code} (h:c.wpIn F n P (noGoto Q) a w):(Code.scope c).wpIn F n P Q a w:=by
 intro b k cs hro hb hr
 have h0:(lone (b.atR a (.code (.scope c)::k)) cs w).fenced P F:=fenced_calm hb hr rfl
 obtain⟨e,a₁,w₁,hq,harr⟩:=h b (.inScope c::k) cs hro hb hr
 cases e with
 |normal=>exact⟨.normal,a₁,w₁,hq,.head h0 afT (StepsIn.trans harr (.one (fenced_calm hb hr rfl) aJJ))⟩
 | exit id =>
   have hx:exitTo id (.inScope c::k)=exitTo id k:=by simp[exitTo]
   exact⟨.exit id,a₁,w₁,hq,fun k' hk=>.head h0 afT (harr.1 k' (by rw[hx]; exact hk)),
    fun hr' hk=>let ⟨k₁,h1,h2⟩:=harr.2 hr' (by rw[hx]; exact hk); ⟨k₁,h1,.head h0 afT h2⟩⟩
 |goto l=>exact hq.elim
 |ret=>exact⟨_,a₁,w₁,hq,.of_steps (.one h0 afT) harr⟩
 |panic ch=>exact⟨_,a₁,w₁,hq,.of_steps (.one h0 afT) harr⟩
 |outgrown=>exact⟨_,a₁,w₁,hq,.of_steps (.one h0 afT) harr⟩
end
def ahi (E:Env ρ) (path:List Nat) (fid bid:Nat) (b:Code):Prop :=
 ∀(m:Nat) (S:St) (K:Exit→St→Option ρ) (r:ρ) (ν:Nat→Value) (a:Act) (w:World),E.loops path fid bid m S K=some r→Sim ν S a w→m≤S.h.length→(Code.loop b).wpIn fen 0 E.P (aVZ m ν S.h w K r) a w
theorem ays {E:Env ρ} {call:List Nat→Bool→Nat→List AV→List Blk→(AV→List Blk→Option ρ)→Option ρ} {L:Nat} (hE:afG E L call) {fid:Nat} {path:List Nat} (hp:path.length+2=L) {m:Nat} {r:ρ}:∀(c:Code) (bid:Nat) (S:St) (K:Exit→St→Option ρ) (ν:Nat→Value) (a:Act) (w:World),
 (drawn c=true→afS E L call)→(∀x∈ê bid c,ahi E path fid x.1 x.2)→goC E call fid path m bid c S K=some r→Sim ν S a w→m≤S.h.length→c.wpIn fen 0 E.P (aVZ m ν S.h w K r) a w:=by
 intro c
 induction c with
 |skip=>exact fun bid S K ν a w _ _ e H hm=>wpIn_skip ⟨ν,S,H,Ev.refl _ _ _ _,hm,Dd.refl _ _,e⟩
 |label l=>exact fun bid S K ν a w _ _ e H hm=>wpIn_label ⟨ν,S,H,Ev.refl _ _ _ _,hm,Dd.refl _ _,e⟩
 |exit id=>exact fun bid S K ν a w _ _ e H hm=>wpIn_exit ⟨ν,S,H,Ev.refl _ _ _ _,hm,Dd.refl _ _,e⟩
 |ret=>exact fun bid S K ν a w _ _ e H hm=>wpIn_ret ⟨ν,S,H,Ev.refl _ _ _ _,hm,Dd.refl _ _,e⟩
 | region rid ops draw =>
   intro bid S K ν a w hD _ e H hm
   simp only[goC,aXv] at e
   cases draw with
   |false=>exact aRc hE (by simpa using hp) e H hm
   |true=>exact hD rfl fid rid _ ops S a K r m ν w (by simpa using hp) e H hm
 | seq x y ihx ihy =>
   intro bid S K ν a w hD hL e H hm
   simp only[goC] at e
   cases hj:E.joins path fid (aEZ y) m with
   | none =>
     rw[hj] at e
     simp only at e
     refine wpIn_seq (wpIn_mono (ihx bid S _ ν a w (fun h=>hD (by simp[drawn,h])) (fun z hz=>hL z (List.mem_append_left _ hz)) e H hm) fun e' a' w' ha=>?_)
     obtain⟨ν',S',h1,h2,h3,h4,h5⟩:=ha
     cases e' with
     | normal =>
       exact wpIn_mono (ihy bid S' K ν' a' w' (fun h=>hD (by simp[drawn,h])) (fun z hz=>hL z (List.mem_append_right _ hz)) h5 h1 h3) fun e'' a'' w'' ha=>ha.trans h2 h4 (Nat.le_refl _)
     |exit id=>exact⟨ν',S',h1,h2,h3,h4,h5⟩
     |goto l=>exact⟨ν',S',h1,h2,h3,h4,h5⟩
     |ret=>exact⟨ν',S',h1,h2,h3,h4,h5⟩
     |panic ch=>exact⟨ν',S',h1,h2,h3,h4,h5⟩
     |outgrown=>exact⟨ν',S',h1,h2,h3,h4,h5⟩
   | some J =>
     rw[hj] at e
     simp only at e
     obtain⟨N,hN,hJ⟩:=hE.joins _ _ _ _ _ hj
     rw[hJ] at e
     refine wpIn_seq (wpIn_mono (ihx bid S _ ν a w (fun h=>hD (by simp[drawn,h])) (fun z hz=>hL z (List.mem_append_left _ hz)) e H hm) fun e' a' w' ha=>?_)
     obtain⟨ν',S',h1,h2,h3,h4,h5⟩:=ha
     cases e' with
     | normal =>
       simp only at h5
       split at h5<;>try (cases h5; done)
       rename_i S'' hn
       obtain⟨ν'',g1,g2,g3,g4⟩:=hN S' S'' ν' a' w' hn h1 h3
       exact wpIn_mono (ihy bid S'' K ν'' a' w' (fun h=>hD (by simp[drawn,h])) (fun z hz=>hL z (List.mem_append_right _ hz)) h5 g1 g3) fun e'' a'' w'' ha=>ha.trans (h2.trans g2 (Nat.le_refl _)) (h4.trans g4 (Nat.le_refl _)) (Nat.le_refl _)
     |exit id=>exact⟨ν',S',h1,h2,h3,h4,h5⟩
     |goto l=>exact⟨ν',S',h1,h2,h3,h4,h5⟩
     |ret=>exact⟨ν',S',h1,h2,h3,h4,h5⟩
     |panic ch=>exact⟨ν',S',h1,h2,h3,h4,h5⟩
     |outgrown=>exact⟨ν',S',h1,h2,h3,h4,h5⟩
 | cond c x y ihx ihy =>
   intro bid S K ν a w hD hL e H hm
   simp only[goC] at e
   split at e<;>try (cases e; done)
   rename_i b hb
   have hv:=ň H c
   rw[hb] at hv
   have hv:a.eval c=.bool b:=hv
   split at e
   ·exact wpIn_cond_true hv (ihx bid S K ν a w (fun h=>hD (by simp[drawn,h])) (fun z hz=>hL z (List.mem_append_left _ hz)) e H hm)
   ·exact wpIn_cond_false hv (ihy bid S K ν a w (fun h=>hD (by simp[drawn,h])) (fun z hz=>hL z (List.mem_append_right _ hz)) e H hm)
 | block id b ih =>
   intro bid S K ν a w hD hL e H hm
   simp only[goC] at e
   refine wpIn_block (wpIn_mono (ih id S _ ν a w (fun h=>hD (by simpa[drawn] using h)) hL e H hm) fun e' a' w' ha=>?_)
   obtain⟨ν',S',h1,h2,h3,h4,h5⟩:=ha
   cases e' with
   | exit j =>
     simp only[Exit.inBlock]
     simp only at h5
     split at h5
     ·rename_i hj
      rw[if_pos (eq_of_beq hj)]
      exact⟨ν',S',h1,h2,h3,h4,h5⟩
     ·rename_i hj
      have:¬j=id:=by simpa using hj
      rw[if_neg this]
      exact⟨ν',S',h1,h2,h3,h4,h5⟩
   |normal=>exact⟨ν',S',h1,h2,h3,h4,h5⟩
   |goto l=>exact⟨ν',S',h1,h2,h3,h4,h5⟩
   |ret=>exact⟨ν',S',h1,h2,h3,h4,h5⟩
   |panic ch=>exact⟨ν',S',h1,h2,h3,h4,h5⟩
   |outgrown=>exact⟨ν',S',h1,h2,h3,h4,h5⟩
 | loop b ih =>
   intro bid S K ν a w hD hL e H hm
   simp only[goC] at e
   exact hL (bid,b) (by simp[ê]) m S K r ν a w e H hm
 | scope b ih =>
   intro bid S K ν a w hD hL e H hm
   simp only[goC] at e
   refine aUv (wpIn_mono (ih bid S _ ν a w (fun h=>hD (by simpa[drawn] using h)) hL e H hm) fun e' a' w' ha=>?_)
   obtain⟨ν',S',h1,h2,h3,h4,h5⟩:=ha
   cases e' with
   |goto l=>cases h5
   |normal=>exact⟨ν',S',h1,h2,h3,h4,h5⟩
   |exit id=>exact⟨ν',S',h1,h2,h3,h4,h5⟩
   |ret=>exact⟨ν',S',h1,h2,h3,h4,h5⟩
   |panic ch=>exact⟨ν',S',h1,h2,h3,h4,h5⟩
   |outgrown=>exact⟨ν',S',h1,h2,h3,h4,h5⟩
 |_=>intro bid S K ν a w hD hL e H hm; cases e
theorem afx {E:Env ρ} {call:List Nat→Bool→Nat→List AV→List Blk→(AV→List Blk→Option ρ)→Option ρ} {L:Nat} (hE:afG E L call) (hD:afS E L call) {fid:Nat} {path:List Nat} (hp:path.length+2=L) {m:Nat} {r:ρ} (c:Code) (bid:Nat) (S:St) (K:Exit→St→Option ρ) (ν:Nat→Value) (a:Act) (w:World)
 (hL:∀x∈ê bid c,ahi E path fid x.1 x.2) (e:goC E call fid path m bid c S K=some r) (H:Sim ν S a w) (hm:m≤S.h.length):c.wpIn fen 0 E.P (aVZ m ν S.h w K r) a w :=
 ays hE hp c bid S K ν a w (fun _=>hD) hL e H hm
end
end Go.Am
end
noncomputable section
namespace Go.Am
variable [ò]
section
variable {ρ:Type} {ν ν':Nat→Value} {h h':List Blk} {w w':World} {P:Program}
def aYL:Prop:=∀(T:Tpl) (pin:Nat) (cs vs:List Ty) (S:St) (p:Val (tyL cs)) (v:Val (tyL vs)) (ν:Nat→Value) (a:Act) (w:World),atY T pin cs vs S=some (p,v)→Sim ν S a w →
 ∃ν',Sim ν' (adS T cs vs p v) a w∧Ev pin ν S.h w ν' (adS T cs vs p v).h w∧pin≤(adS T cs vs p v).h.length∧Dd pin S.h (adS T cs vs p v).h
theorem aJk:∀(l:List (Exit×Tpl×List Ty)) (e:Exit) (i j:Nat),aZI l e i=some j→∃x,i≤j∧l[j-i]?=some x∧aBm x.1 e=true
 |[],_,_,_,h=>by cases h
 | x :: l, e, i, j, h => by
   unfold aZI at h
   split at h
   ·rename_i hs
    cases h
    exact⟨x,Nat.le_refl _,by simp,hs⟩
   ·obtain⟨y,h1,h2,h3⟩:=aJk l e (i+1) j h
    refine⟨y,by omega,?_,h3⟩
    rw[show j-i=(j-(i+1))+1 by omega]
    simpa using h2
theorem aQ7 {a b:Exit} (h:aBm a b=true):a=b:=by
 unfold aBm at h
 split at h
 ·rw[eq_of_beq h]
 ·rfl
 ·cases h
theorem aU2 (hM:aYL) {E:Env ρ} {call:List Nat→Bool→Nat→List AV→List Blk→(AV→List Blk→Option ρ)→Option ρ} {N:Nat} (hE:afG E N call) (hD:afS E N call) {fid bid:Nat} {path:List Nat} (hpath:path.length+2=N) {b:Code}
 (hin:∀x∈ê bid b,ahi E path fid x.1 x.2) (L:È)
 (bF:Val (tyL L.cs)→Val (tyL L.vs)→(Val (tyL L.vs)→Option ρ)→((i:Nat)→Val (tyL (L.zs i))→Option ρ)→Option ρ)
 (hrun:∀m S K,E.loops path fid bid m S K=aQ9 L bF m S K)
 (law:∀p v kn kx,goC E call fid path L.pin bid b (adS L.head L.cs L.vs p v) (aNu L kn kx)=bF p v (kn p) (fun i=>kx i p)):ahi E path fid bid b:=by
 intro m S K r ν a w e H hm
 rw[hrun] at e
 unfold aQ9 at e
 split at e<;>try (cases e; done)
 rename_i hpin
 have hpin:m≤L.pin:=Nat.le_of_ble_eq_true hpin
 split at e<;>try (cases e; done)
 rename_i p v hmt
 obtain⟨n,hn⟩:=aU3 e
 obtain⟨ν₁,H1,ev1,hp1,dd1⟩:=hM _ _ _ _ _ _ _ ν a w hmt H
 apply wpIn_loop_rounds n
 have key:∀(n:Nat) (p:Val (tyL L.cs)) (v:Val (tyL L.vs)) (ν₁:Nat→Value) (a₁:Act) (w₁:World),aYW (fun v kn=>bF p v kn fun i z=>K (L.xk i) (adS (L.tpl i) L.cs (L.zs i) p z)) n v=some r →
  Sim ν₁ (adS L.head L.cs L.vs p v) a₁ w₁→Ev m ν S.h w ν₁ (adS L.head L.cs L.vs p v).h w₁→L.pin≤(adS L.head L.cs L.vs p v).h.length→Dd m S.h (adS L.head L.cs L.vs p v).h →
  Code.roundsIn fen 0 E.P b (aVZ m ν S.h w K r) n a₁ w₁:=by
  intro n
  induction n with
  |zero=>intro p v ν₁ a₁ w₁ e; cases e
  | succ n ih =>
    intro p v ν₁ a₁ w₁ e H1 ev1 hp1 dd1
    rw[roundsIn_succ]
    have hl:=law p v (fun p v=>aYW (fun v kn=>bF p v kn fun i z=>K (L.xk i) (adS (L.tpl i) L.cs (L.zs i) p z)) n v) (fun i p z=>K (L.xk i) (adS (L.tpl i) L.cs (L.zs i) p z))
    have e':goC E call fid path L.pin bid b (adS L.head L.cs L.vs p v) (aNu L (fun p v=>aYW (fun v kn=>bF p v kn fun i z=>K (L.xk i) (adS (L.tpl i) L.cs (L.zs i) p z)) n v) (fun i p z=>K (L.xk i) (adS (L.tpl i) L.cs (L.zs i) p z)))=some r:=by
     rw[hl]; exact e
    refine wpIn_mono (afx hE hD hpath b bid _ _ ν₁ a₁ w₁ hin e' H1 hp1) fun x a₂ w₂ ha=>?_
    obtain⟨ν₂,S₂,H2,ev2,hp2,dd2,hk⟩:=ha
    have ev12:Ev m ν S.h w ν₂ S₂.h w₂:=ev1.trans ev2 hpin
    have dd12:Dd m S.h S₂.h:=dd1.trans dd2 hpin
    have out:∀x,x≠.normal→aNu L (fun p v=>aYW (fun v kn=>bF p v kn fun i z=>K (L.xk i) (adS (L.tpl i) L.cs (L.zs i) p z)) n v) (fun i p z=>K (L.xk i) (adS (L.tpl i) L.cs (L.zs i) p z)) x S₂=some r→aVZ m ν S.h w K r x a₂ w₂:=by
     intro x hx hk
     unfold aNu at hk
     split at hk
     ·exact absurd rfl hx
     ·split at hk<;>try (cases hk; done)
      rename_i i hi
      split at hk<;>try (cases hk; done)
      rename_i p' z hmt
      obtain⟨y,_,h1,h2⟩:=aJk _ _ _ _ hi
      have hxk:L.xk i=x:=by
       have:L.exits[i]?=some y:=by simpa using h1
       unfold È.xk
       rw[this]
       exact aQ7 h2
      obtain⟨ν₃,H3,ev3,hp3,dd3⟩:=hM _ _ _ _ _ _ _ ν₂ a₂ w₂ hmt H2
      have hk:K (L.xk i) (adS (L.tpl i) L.cs (L.zs i) p' z)=some r:=hk
      rw[hxk] at hk
      exact⟨ν₃,_,H3,ev12.trans ev3 hpin,Nat.le_trans hpin hp3,dd12.trans dd3 hpin,hk⟩
    cases x with
    | normal =>
      simp only[aNu] at hk
      split at hk<;>try (cases hk; done)
      rename_i p' v' hmt
      obtain⟨ν₃,H3,ev3,hp3,dd3⟩:=hM _ _ _ _ _ _ _ ν₂ a₂ w₂ hmt H2
      exact ih p' v' ν₃ a₂ w₂ hk H3 (ev12.trans ev3 hpin) hp3 (dd12.trans dd3 hpin)
    |exit id=>exact out _ (by simp) hk
    |ret=>exact out _ (by simp) hk
    |goto l=>exact out _ (by simp) hk
    |panic ch=>exact out _ (by simp) hk
    |outgrown=>exact out _ (by simp) hk
 exact key n p v ν₁ a w hn H1 (ev1.mono hpin) hp1 (fun j hj hd=>dd1 j (by omega) hd)
end
end Go.Am
end
noncomputable section
namespace Go.Am
variable [ò]
section
variable {ν:Nat→Value} {h h':List Blk} {w:World}
theorem aQo {t:Ty} {d:DV} {x:Val t} (e:aFx t d=some x):d=⟨t,x⟩:=by
 unfold aFx at e
 split at e<;>try (cases e; done)
 rename_i ht _
 obtain⟨ty,val⟩:=d
 simp only at ht
 subst ht
 cases e
 rfl
theorem aUw (u:Ty) (l:List Ty) (t:Ty) (d:DV) (ds:List DV):aUx (u::l) t (d::ds)=(match aFx t d with
 | some x => match aUx l u ds with
   |some y=>some ((x,y):Val t×Val (tys u l))
   |none=>none
 |none=>none):=rfl
theorem aWG (t:Ty) (x:Val t):aUM t [] x=[⟨t,x⟩]:=rfl
theorem aUL (t u:Ty) (l:List Ty) (x:Val t) (y:Val (tys u l)):aUM t (u::l) ((x,y):Val t×Val (tys u l))=⟨t,x⟩::aUM u l y:=rfl
theorem aY4 (l:List Ty):∀(t:Ty) (ds:List DV) (x:Val (tys t l)),aUx l t ds=some x→aUM t l x=ds:=by
 induction l with
 | nil =>
   intro t ds x e
   match ds,e with
   |[],e=>exact absurd (show(none:Option (Val t))=some x from e) (fun h=>by cases h)
   | [d], e =>
     have e:aFx t d=some x:=e
     rw[aQo e]; exact aWG t x
   |_::_::_,e=>exact absurd (show(none:Option (Val t))=some x from e) (fun h=>by cases h)
 | cons u l ih =>
   intro t ds x e
   match ds,e with
   |[],e=>exact absurd (show(none:Option (Val t×Val (tys u l)))=some x from e) (fun h=>by cases h)
   | d :: ds, e =>
     rw[aUw] at e
     cases hy:aFx t d with
     |none=>rw[hy] at e; exact absurd (show(none:Option (Val t×Val (tys u l)))=some x from e) (fun h=>by cases h)
     | some y =>
       cases hz:aUx l u ds with
       |none=>rw[hy,hz] at e; exact absurd (show(none:Option (Val t×Val (tys u l)))=some x from e) (fun h=>by cases h)
       | some z =>
         rw[hy,hz] at e
         have e:((y,z):Val t×Val (tys u l))=x:=Option.some.inj e
         rw[←e,aQo hy,←ih u ds z hz]
         exact aUL t u l y z
theorem aS9 (l:List Ty) (ds:List DV) (x:Val (tyL l)) (e:a0W l ds=some x):aRk l x=ds:=by
 cases l with
 | nil => cases ds with
   |nil=>rfl
   |cons=>cases e
 |cons t l=>exact aY4 l t ds x e
def νb (B:List Bd) (ν:Nat→Value) (i:Nat):Value :=
 match afw B i with
 |some (.at_ id)=>ν id
 |some .new=>.slice none 0 0
 |_=>undef
structure Ext (M M':Mt):Prop where
 bd:∀i id,afw M.bd i=some (.at_ id)→afw M'.bd i=some (.at_ id)
 new:∀i,afw M.bd i=some .new→afw M'.bd i=some .new
 cons:M.cons <+: M'.cons
 vars:M.vars <+: M'.vars
 freed:∀i∈M.freed,i∈M'.freed
 len:M'.bd.length=M.bd.length
theorem Ext.refl (M:Mt):Ext M M:=⟨fun _ _ h=>h,fun _ h=>h,List.prefix_rfl,List.prefix_rfl,fun _ h=>h,rfl⟩
theorem Ext.trans {M M' M'':Mt} (h:Ext M M') (k:Ext M' M''):Ext M M'' :=
 ⟨fun i id q=>k.bd i id (h.bd i id q),fun i q=>k.new i (h.new i q),h.cons.trans k.cons,h.vars.trans k.vars,fun i q=>k.freed i (h.freed i q),k.len.trans h.len⟩
theorem agb:∀(l:List Bd) (d:Nat) (b:Bd) (i:Nat),afw (aBQ l d b) i=if i=d∧d<l.length then some b else afw l i
 |[],d,v,i=>by simp[aBQ,afw]
 |x::xs,0,v,0=>by simp[aBQ,afw]
 |x::xs,0,v,i+1=>by simp[aBQ,afw]
 |x::xs,d+1,v,0=>by simp[aBQ,afw]
 |x::xs,d+1,v,i+1=>by simp[aBQ,afw,agb xs d v i]
theorem aoZ:∀(l:List Bd) (d:Nat) (b:Bd),(aBQ l d b).length=l.length
 |[],_,_=>rfl
 |_::_,0,_=>rfl
 |_::xs,d+1,v=>by simp[aBQ,aoZ xs d v]
theorem ayj:∀{l:List Bd} {i:Nat} {b:Bd},afw l i=some b→i<l.length
 |[],_,_,h=>by cases h
 |_::_,0,_,_=>Nat.succ_pos _
 |_::_,i+1,_,h=>Nat.succ_lt_succ (ayj (by simpa[afw] using h))
theorem ae1 {M M':Mt} {i id:Nat} (e:aJz M i id=some M'):Ext M M'∧afw M'.bd i=some (.at_ id)∧M'.cons=M.cons∧M'.vars=M.vars:=by
 unfold aJz at e
 split at e<;>try (cases e; done)
 ·rename_i ho
  cases e
  have hlt:=ayj ho
  refine⟨⟨fun j id' q=>?_,fun j q=>?_,List.prefix_rfl,List.prefix_rfl,fun _ q=>q,aoZ _ _ _⟩,by simp[agb,hlt],rfl,rfl⟩
  ·simp only[agb]
   by_cases hj:j=i
   ·subst hj; rw[ho] at q; cases q
   ·simp[hj,q]
  ·simp only[agb]
   by_cases hj:j=i
   ·subst hj; rw[ho] at q; cases q
   ·simp[hj,q]
 ·rename_i id' ho
  split at e<;>try (cases e; done)
  rename_i hi
  cases e
  rw[eq_of_beq hi] at ho
  exact⟨Ext.refl _,ho,rfl,rfl⟩
theorem aAc {M M':Mt} {i:Nat} (e:aSN M i=some M'):Ext M M'∧afw M'.bd i=some .new∧M'.cons=M.cons∧M'.vars=M.vars:=by
 unfold aSN at e
 split at e<;>try (cases e; done)
 rename_i ho
 cases e
 have hlt:=ayj ho
 refine⟨⟨fun j id' q=>?_,fun j q=>?_,List.prefix_rfl,List.prefix_rfl,fun _ q=>q,aoZ _ _ _⟩,by simp[agb,hlt],rfl,rfl⟩
 ·simp only[agb]
  by_cases hj:j=i
  ·subst hj; rw[ho] at q; cases q
  ·simp[hj,q]
 ·simp only[agb]
  by_cases hj:j=i
  ·subst hj; rw[ho] at q; cases q
  ·simp[hj,q]
def kin:Blk→Blk→Prop
 |.row t _ false xs,B=>B=.row t 0 false xs
 |.row t g true xs,B=>B=.row t g true xs
 |.map k v es,B=>B=.map k v es
 |.cells _,B=>∃cs',B=.cells cs'
 |.dead,B=>B=.dead
structure Fin (ν:Nat→Value) (h:List Blk) (w:World) (M:Mt) (h':List Blk):Prop where
 at_:∀i id,afw M.bd i=some (.at_ id)→kin (lkB h id) (lkB h' i)
 new:∀i,afw M.bd i=some .new→∃t,lkB h' i=.row t 0 false []
 out:∀i,(∀id,afw M.bd i≠some (.at_ id))→afw M.bd i≠some .new→lkB h' i=.dead
 freed:∀id∈M.freed,∀i,afw M.bd i≠some (.at_ id)
 inj:∀i j id,afw M.bd i=some (.at_ id)→afw M.bd j=some (.at_ id)→i=j
theorem Fin.live {M:Mt} (F:Fin ν h w M h') {b:Nat} (hb:aSU (νb M.bd ν) h' b):∃i id,afw M.bd i=some (.at_ id)∧(lkB h id).live=true∧Ĭ (ν id)=some b:=by
 obtain⟨i,hl,hn⟩:=hb
 cases hB:afw M.bd i with
 |none=>rw[F.out i (by simp[hB]) (by simp[hB])] at hl; cases hl
 | some bd =>
   cases bd with
   |open_=>rw[F.out i (by simp[hB]) (by simp[hB])] at hl; cases hl
   |new=>simp[νb,hB,Ĭ] at hn
   | at_ id =>
     refine⟨i,id,hB,?_,by simpa[νb,hB] using hn⟩
     have hk:=F.at_ i id hB
     cases hB':lkB h id with
     |dead=>rw[hB'] at hk; rw[show lkB h' i=_ from hk] at hl; cases hl
     |cells=>rfl
     |map=>rfl
     | row t g fz xs =>
       cases fz with
       |false=>rfl
       |true=>rw[hB'] at hk; rw[show lkB h' i=_ from hk] at hl; cases hl
theorem Fin.subL {M:Mt} (F:Fin ν h w M h') (b:Nat) (hb:aSU (νb M.bd ν) h' b):aSU ν h b:=by
 obtain⟨i,id,_,h2,h3⟩:=F.live hb
 exact⟨id,h2,h3⟩
theorem Fin.sub {M:Mt} (F:Fin ν h w M h') (b:Nat) (hb:Av (νb M.bd ν) h' b):Av ν h b:=hb.imp_left (F.subL b)
theorem aT0 (H:HR ν h w) {M:Mt} (F:Fin ν h w M h') {t:Ty} {v:AV} {u:Value} {x:Val t} (hf:∀i∈aJj h v,i∈M.freed) (e:ä t [þ h v]=some x) (hv:VR ν h w v u) :
 VR (νb M.bd ν) h' w (aXE ⟨t,x⟩) u:=by
 have main:∀(hag:v.isAgg=false) (htu:v.isTup=false),CR w (Av (νb M.bd ν) h') t x [u]:=by
  intro hag htu
  have h1:=hv.one hag htu
  refine Ş e ⟨atr H F.sub h1 fun id b hc hl hb=>?_,trivial⟩
  rintro(hlive|hgh)
  rotate_left
  ·exact H.ghne id b hl hb hgh
  obtain⟨i,id',h2,h3,h4⟩:=F.live hlive
  have hid:id=id':=H.inj id id' b hl h3 hb h4
  subst hid
  refine F.freed id (hf id ?_) i h2
  rcases hc with⟨g,rfl⟩|⟨g,lo,n,rfl⟩|rfl
  ·obtain⟨_,t',g',fz,xs,hl',_⟩:=h1
   rw[hl'] at hl
   cases fz with
   |true=>cases hl
   |false=>simp[aJj,hl']
  ·obtain⟨_,t',g',fz,xs,hl',_⟩:=h1
   rw[hl'] at hl
   cases fz with
   |true=>cases hl
   |false=>simp[aJj,hl']
  ·simp[aJj]
 have fin:(t≠.unit∧∀a b,t≠.pair a b)→v.isAgg=false∧v.isTup=false:=fun⟨h1,h2⟩=>by
  constructor
  ·cases v<;>try rfl
   cases t<;>first|(exact absurd rfl h1)|(exact absurd rfl (h2 _ _))|(simp[þ,ä,ű] at e)
  ·cases v<;>try rfl
   cases t<;>first|(exact absurd rfl h1)|(exact absurd rfl (h2 _ _))|(simp[þ,ä,ű] at e)
 cases t with
 |unit=>trivial
 |pair a b=>trivial
 |bool=>obtain⟨q1,q2⟩:=fin ⟨by simp,by simp⟩; exact az7 (main q1 q2)
 |int k=>obtain⟨q1,q2⟩:=fin ⟨by simp,by simp⟩; exact az7 (main q1 q2)
 |str=>obtain⟨q1,q2⟩:=fin ⟨by simp,by simp⟩; exact az7 (main q1 q2)
 |slice t=>obtain⟨q1,q2⟩:=fin ⟨by simp,by simp⟩; exact az7 (main q1 q2)
 |map k v=>obtain⟨q1,q2⟩:=fin ⟨by simp,by simp⟩; exact az7 (main q1 q2)
 |ptr t=>obtain⟨q1,q2⟩:=fin ⟨by simp,by simp⟩; exact az7 (main q1 q2)
theorem Ũ {α:Type} {l C:List α} {d:α} (h:(l++[d]) <+: C):C.drop l.length=d::C.drop (l.length+1):=by
 obtain⟨t,rfl⟩:=h
 simp[List.append_assoc]
theorem amN {B:List Bd} {i id:Nat} (h:afw B i=some (.at_ id)):νb B ν i=ν id:=by simp[νb,h]
theorem aV0 {B:List Bd} {i:Nat} (h:afw B i=some .new):νb B ν i=.slice none 0 0:=by simp[νb,h]
theorem aev:∀(ps:List (Nat×Nat)) (vs:List AV) (us:List Value) (M M1:Mt),anM h ps vs M=some M1→Ext M M1∧M1.cons=M.cons∧M1.vars=M.vars ∧
 ∀Mf,Ext M1 Mf→Fin ν h w Mf h'→Ė (VR0 ν h w) vs us→Ė (VR0 (νb Mf.bd ν) h' w) (ps.map fun c=>.box c.1 c.2) us
 | [], [], us, M, M1, e => by
   cases e
   exact⟨Ext.refl _,rfl,rfl,fun Mf _ _ hv=>by cases us with|nil=>trivial|cons=>exact hv.elim⟩
 |[],_::_,_,_,_,e=>by cases e
 |_::_,[],_,_,_,e=>by cases e
 | (i, o) :: ps, v :: vs, us, M, M1, e => by
   cases v<;>try (simp[anM] at e; done)
   rename_i id off
   simp only[anM] at e
   split at e<;>try (cases e; done)
   rename_i ho
   split at e<;>try (cases e; done)
   rename_i cs hl
   split at e<;>try (cases e; done)
   rename_i M2 hb
   obtain⟨e1,b1,c1,v1⟩:=ae1 hb
   obtain⟨e2,c2,v2,_⟩:=aev ps vs us M2 M1 e
   refine⟨e1.trans e2,c2.trans c1,v2.trans v1,fun Mf he F hv=>?_⟩
   cases us with
   |nil=>exact hv.elim
   | cons u us =>
     refine⟨?_,(aev ps vs us M2 M1 e).2.2.2 Mf he F hv.2⟩
     obtain⟨cs',b,h1,h2,h3⟩:=hv.1
     have hat:=he.bd i id (e2.bd i id b1)
     have hk:=F.at_ i id hat
     rw[hl] at hk
     obtain⟨cs2,hk⟩:=hk
     exact⟨cs2,b,hk,(amN hat).trans h2,by rw[eq_of_beq ho]; exact h3⟩
theorem aCu (H:HR ν h w) {p:Pat} {v:AV} {M M1:Mt} (e:ael h p v M=some M1):Ext M M1∧∀Mf u,Ext M1 Mf→Fin ν h w Mf h'→VR ν h w v u →
 VR (νb Mf.bd ν) h' w (amn p ⟨Mf.cons.drop M.cons.length,Mf.vars.drop M.vars.length⟩).1 u ∧
  (amn p ⟨Mf.cons.drop M.cons.length,Mf.vars.drop M.vars.length⟩).2=⟨Mf.cons.drop M1.cons.length,Mf.vars.drop M1.vars.length⟩:=by
 cases p with
 |any=>cases e; exact⟨Ext.refl _,fun Mf u _ _ _=>⟨trivial,rfl⟩⟩
 | con t =>
   simp only[ael] at e
   split at e<;>try (cases e; done)
   rename_i x hx
   cases e
   refine⟨⟨fun _ _ q=>q,fun _ q=>q,List.prefix_append _ _,List.prefix_rfl,fun _ q=>List.mem_append_right _ q,rfl⟩,fun Mf u he F hv=>?_⟩
   have hd:=Ũ he.cons
   simp only[amn,hd]
   exact⟨aT0 H F (fun i hi=>he.freed i (List.mem_append_left _ hi)) hx hv,by simp⟩
 | var t =>
   simp only[ael] at e
   split at e<;>try (cases e; done)
   rename_i x hx
   cases e
   refine⟨⟨fun _ _ q=>q,fun _ q=>q,List.prefix_rfl,List.prefix_append _ _,fun _ q=>List.mem_append_right _ q,rfl⟩,fun Mf u he F hv=>?_⟩
   have hd:=Ũ he.vars
   simp only[amn,hd]
   exact⟨aT0 H F (fun i hi=>he.freed i (List.mem_append_left _ hi)) hx hv,by simp⟩
 | own i =>
   simp only[ael] at e
   split at e<;>try (cases e; done)
   ·rename_i id g
    split at e<;>try (cases e; done)
    rename_i t g' xs hl
    split at e<;>try (cases e; done)
    rename_i hg
    obtain⟨e1,b1,c1,v1⟩:=ae1 e
    refine⟨e1,fun Mf u he F hv=>⟨?_,by simp only[amn,c1,v1]⟩⟩
    have hat:=he.bd i id b1
    have hk:=F.at_ i id hat
    rw[hl] at hk
    obtain⟨ho,t2,g2,fz2,xs2,hl2,_,hq⟩:=hv
    rw[hl] at hl2; cases hl2
    exact⟨ho,t,0,false,xs,hk,Nat.le_refl _,fun _=>(hq (eq_of_beq hg)).trans (amN hat).symm⟩
   ·obtain⟨e1,b1,c1,v1⟩:=aAc e
    refine⟨e1,fun Mf u he F hv=>⟨?_,by simp only[amn,c1,v1]⟩⟩
    have hnw:=he.new i b1
    obtain⟨t,hk⟩:=F.new i hnw
    have hu:u=.slice none 0 0:=hv
    exact⟨by rw[hu]; rfl,t,0,false,[],hk,Nat.le_refl _,fun _=>hu.trans (aV0 hnw).symm⟩
 | omp i =>
   simp only[ael] at e
   split at e<;>try (cases e; done)
   rename_i id
   split at e<;>try (cases e; done)
   rename_i k v' es hl
   obtain⟨e1,b1,c1,v1⟩:=ae1 e
   refine⟨e1,fun Mf u he F hv=>⟨?_,by simp only[amn,c1,v1]⟩⟩
   have hat:=he.bd i id b1
   have hk:=F.at_ i id hat
   rw[hl] at hk
   obtain⟨ho,k2,v2,es2,hl2,hq⟩:=hv
   exact⟨ho,k,v',es,hk,hq.trans (amN hat).symm⟩
 | box i off =>
   simp only[ael] at e
   split at e<;>try (cases e; done)
   rename_i id off'
   split at e<;>try (cases e; done)
   rename_i hoff
   split at e<;>try (cases e; done)
   rename_i cs hl
   obtain⟨e1,b1,c1,v1⟩:=ae1 e
   refine⟨e1,fun Mf u he F hv=>⟨?_,by simp only[amn,c1,v1]⟩⟩
   have hat:=he.bd i id b1
   have hk:=F.at_ i id hat
   rw[hl] at hk
   obtain⟨cs2,hk⟩:=hk
   obtain⟨cs',b,h1,h2,h3⟩:=hv
   exact⟨cs2,b,hk,(amN hat).trans h2,by rw[eq_of_beq hoff]; exact h3⟩
 | nils =>
   simp only[ael] at e
   split at e<;>try (cases e; done)
   cases e
   exact⟨Ext.refl _,fun Mf u _ _ hv=>⟨hv,rfl⟩⟩
 | nilp =>
   simp only[ael] at e
   split at e<;>try (cases e; done)
   cases e
   exact⟨Ext.refl _,fun Mf u _ _ hv=>⟨hv,rfl⟩⟩
 | nilfn =>
   simp only[ael] at e
   split at e<;>try (cases e; done)
   cases e
   exact⟨Ext.refl _,fun Mf u _ _ hv=>⟨hv,rfl⟩⟩
 | fn f caps =>
   simp only[ael] at e
   split at e<;>try (cases e; done)
   rename_i f' vs
   split at e<;>try (cases e; done)
   rename_i hf
   obtain⟨e1,c1,v1,_⟩:=aev (ν:=ν) (w:=w) (h':=h') caps vs [] M M1 e
   refine⟨e1,fun Mf u he F hv=>⟨?_,by simp only[amn,c1,v1]⟩⟩
   obtain⟨fs,cs,rfl,q1,q2⟩:=hv
   have:=(aev (ν:=ν) (w:=w) (h':=h') caps vs cs.toList M M1 e).2.2.2 Mf he F q2
   exact⟨fs,cs,by rw[eq_of_beq hf],by rw[q1.nil_left]; trivial,this⟩
def rest (Mf M:Mt):It:=⟨Mf.cons.drop M.cons.length,Mf.vars.drop M.vars.length⟩
theorem aB4 {Mf M M1:Mt} (h1:M1.cons=M.cons) (h2:M1.vars=M.vars):rest Mf M=rest Mf M1:=by simp only[rest,h1,h2]
theorem alx {p:Pat} {v:AV} {M M1:Mt} (e:ael h p v M=some M1):Ext M M1∧∀Mf,Ext M1 Mf→(amn p (rest Mf M)).2=rest Mf M1:=by
 cases p with
 |any=>cases e; exact⟨Ext.refl _,fun Mf _=>rfl⟩
 | con t =>
   simp only[ael] at e
   split at e<;>try (cases e; done)
   rename_i x hx
   cases e
   refine⟨⟨fun _ _ q=>q,fun _ q=>q,List.prefix_append _ _,List.prefix_rfl,fun _ q=>List.mem_append_right _ q,rfl⟩,fun Mf he=>?_⟩
   have hd:=Ũ he.cons
   simp only[rest,amn,hd]; simp
 | var t =>
   simp only[ael] at e
   split at e<;>try (cases e; done)
   rename_i x hx
   cases e
   refine⟨⟨fun _ _ q=>q,fun _ q=>q,List.prefix_rfl,List.prefix_append _ _,fun _ q=>List.mem_append_right _ q,rfl⟩,fun Mf he=>?_⟩
   have hd:=Ũ he.vars
   simp only[rest,amn,hd]; simp
 | own i =>
   simp only[ael] at e
   split at e<;>try (cases e; done)
   ·split at e<;>try (cases e; done)
    split at e<;>try (cases e; done)
    obtain⟨e1,b1,c1,v1⟩:=ae1 e
    exact⟨e1,fun Mf he=>aB4 c1 v1⟩
   ·obtain⟨e1,b1,c1,v1⟩:=aAc e
    exact⟨e1,fun Mf he=>aB4 c1 v1⟩
 | omp i =>
   simp only[ael] at e
   split at e<;>try (cases e; done)
   split at e<;>try (cases e; done)
   obtain⟨e1,b1,c1,v1⟩:=ae1 e
   exact⟨e1,fun Mf he=>aB4 c1 v1⟩
 | box i off =>
   simp only[ael] at e
   split at e<;>try (cases e; done)
   split at e<;>try (cases e; done)
   split at e<;>try (cases e; done)
   obtain⟨e1,b1,c1,v1⟩:=ae1 e
   exact⟨e1,fun Mf he=>aB4 c1 v1⟩
 | nils =>
   simp only[ael] at e
   split at e<;>try (cases e; done)
   cases e; exact⟨Ext.refl _,fun Mf _=>rfl⟩
 | nilp =>
   simp only[ael] at e
   split at e<;>try (cases e; done)
   cases e; exact⟨Ext.refl _,fun Mf _=>rfl⟩
 | nilfn =>
   simp only[ael] at e
   split at e<;>try (cases e; done)
   cases e; exact⟨Ext.refl _,fun Mf _=>rfl⟩
 | fn f caps =>
   simp only[ael] at e
   split at e<;>try (cases e; done)
   rename_i f' vs
   split at e<;>try (cases e; done)
   obtain⟨e1,c1,v1,_⟩:=aev (ν:=fun _=>undef) (w:=default) (h':=[]) caps vs [] M M1 e
   exact⟨e1,fun Mf he=>aB4 c1 v1⟩
theorem ak6 (p:Pat) (ps:List Pat) (I:It):ayo (p::ps) I=((amn p I).1::(ayo ps (amn p I).2).1,(ayo ps (amn p I).2).2):=rfl
theorem asi:∀{ps:List Pat} {vs:List AV} {M M1:Mt},aIH h ps vs M=some M1→Ext M M1∧∀Mf,Ext M1 Mf→(ayo ps (rest Mf M)).2=rest Mf M1
 |[],vs,M,M1,e=>by cases e; exact⟨Ext.refl _,fun Mf _=>rfl⟩
 | p :: ps, vs, M, M1, e => by
   simp only[aIH] at e
   split at e<;>try (cases e; done)
   rename_i M2 h1
   obtain⟨e1,t1⟩:=alx h1
   obtain⟨e2,t2⟩:=asi e
   exact⟨e1.trans e2,fun Mf he=>by rw[ak6,t1 Mf (e2.trans he)]; exact t2 Mf he⟩
theorem aOp (H:HR ν h w):∀{ps:List Pat} {vs:List AV} {M M1:Mt},aIH h ps vs M=some M1→∀Mf,Ext M1 Mf→Fin ν h w Mf h'→∀f:Nat→Value,(∀k,VR ν h w (lk vs k) (f k)) →
 ∀k,VR (νb Mf.bd ν) h' w (lk (ayo ps (rest Mf M)).1 k) (f k)
 |[],vs,M,M1,e,Mf,_,_,f,_,k=>trivial
 | p :: ps, vs, M, M1, e, Mf, he, F, f, hf, k => by
   simp only[aIH] at e
   split at e<;>try (cases e; done)
   rename_i M2 h1
   obtain⟨e1,t1⟩:=alx h1
   obtain⟨e2,t2⟩:=asi e
   rw[ak6,t1 Mf (e2.trans he)]
   cases k with
   |zero=>exact((aCu H h1).2 Mf (f 0) (e2.trans he) F (hf 0)).1
   | succ k =>
     have ht:∀k,lk vs.tail k=lk vs (k+1):=fun k=>by cases vs<;>rfl
     exact aOp H e Mf he F (fun k=>f (k+1)) (fun k=>by rw[ht]; exact hf (k+1)) k
theorem ah3:∀{ps:List Pat} {vs:List AV} {M M1:Mt},ahQ h ps vs M=some M1→Ext M M1∧∀Mf,Ext M1 Mf→(ayo ps (rest Mf M)).2=rest Mf M1
 |[],[],M,M1,e=>by cases e; exact⟨Ext.refl _,fun Mf _=>rfl⟩
 |[],_::_,M,M1,e=>by cases e
 |_::_,[],M,M1,e=>by cases e
 | p :: ps, v :: vs, M, M1, e => by
   simp only[ahQ] at e
   split at e<;>try (cases e; done)
   rename_i M2 h1
   obtain⟨e1,t1⟩:=alx h1
   obtain⟨e2,t2⟩:=ah3 e
   exact⟨e1.trans e2,fun Mf he=>by rw[ak6,t1 Mf (e2.trans he)]; exact t2 Mf he⟩
theorem aU7 (p:Pat) (I:It):(amn p I).1.isAgg=false∧(amn p I).1.isTup=false:=by
 have henc:∀d:DV,(aXE d).isAgg=false∧(aXE d).isTup=false:=fun d=>by
  obtain⟨t,x⟩:=d
  cases t<;>exact⟨rfl,rfl⟩
 cases p<;>simp only[amn]<;>try exact⟨rfl,rfl⟩
 ·split<;>first|exact henc _|exact⟨rfl,rfl⟩
 ·split<;>first|exact henc _|exact⟨rfl,rfl⟩
theorem atZ (H:HR ν h w):∀{ps:List Pat} {vs:List AV} {us:List Value} {M M1:Mt},ahQ h ps vs M=some M1→∀Mf,Ext M1 Mf→Fin ν h w Mf h'→Ė (VRc ν h w) vs us →
 Ė (VRc (νb Mf.bd ν) h' w) (ayo ps (rest Mf M)).1 us
 |[],[],us,M,M1,e,Mf,_,_,hv=>by cases us with|nil=>trivial|cons=>exact hv.elim
 |[],_::_,_,M,M1,e,_,_,_,_=>by cases e
 |_::_,[],_,M,M1,e,_,_,_,_=>by cases e
 | p :: ps, v :: vs, us, M, M1, e, Mf, he, F, hv => by
   simp only[ahQ] at e
   split at e<;>try (cases e; done)
   rename_i M2 h1
   obtain⟨e1,t1⟩:=alx h1
   obtain⟨e2,t2⟩:=ah3 e
   rw[ak6,t1 Mf (e2.trans he)]
   cases us with
   |nil=>exact hv.elim
   | cons u us =>
     have h2:=((aCu H h1).2 Mf u (e2.trans he) F hv.1.1.up).1
     have hfl:=aU7 p (rest Mf M)
     exact⟨⟨h2.one hfl.1 hfl.2,hv.1.2⟩,atZ H e Mf he F hv.2⟩
theorem aBI (M:Mt) (d:DV):Ext M {M with cons:=M.cons++[d]}:=⟨fun _ _ q=>q,fun _ q=>q,List.prefix_append _ _,List.prefix_rfl,fun _ q=>q,rfl⟩
theorem aMI (M:Mt) (d:DV):Ext M {M with vars:=M.vars++[d]}:=⟨fun _ _ q=>q,fun _ q=>q,List.prefix_rfl,List.prefix_append _ _,fun _ q=>q,rfl⟩
theorem aCt {p:adK} {i:Nat} {M M1:Mt} (e:agz h p i M=some M1):Ext M M1∧∀Mf,Ext M1 Mf→(ata p (rest Mf M)).2=rest Mf M1 ∧
 ((∃id,afw M.bd i=some (.at_ id)∧kin (lkB h id) (ata p (rest Mf M)).1)∨(afw M.bd i=some .new∧∃t,(ata p (rest Mf M)).1=.row t 0 false [])):=by
 cases p with
 | dead =>
   simp only[agz] at e
   split at e<;>try (cases e; done)
   rename_i id hb
   split at e<;>try (cases e; done)
   rename_i hl
   cases e
   exact⟨Ext.refl _,fun Mf _=>⟨rfl,.inl ⟨id,hb,by rw[hl]; rfl⟩⟩⟩
 | cells ps =>
   simp only[agz] at e
   split at e<;>try (cases e; done)
   rename_i id hb
   split at e<;>try (cases e; done)
   rename_i cs hl
   obtain⟨e1,t1⟩:=ah3 e
   exact⟨e1,fun Mf he=>⟨t1 Mf he,.inl ⟨id,hb,by rw[hl]; exact⟨_,rfl⟩⟩⟩⟩
 | rowc t =>
   simp only[agz] at e
   split at e<;>try (cases e; done)
   ·rename_i id hb
    split at e<;>try (cases e; done)
    rename_i t' g xs hl
    split at e<;>try (cases e; done)
    cases e
    refine⟨aBI _ _,fun Mf he=>?_⟩
    have hd:=Ũ he.cons
    simp only[rest,ata,hd]
    exact⟨by simp,.inl ⟨id,hb,by rw[hl]; rfl⟩⟩
   ·rename_i hb
    cases e
    refine⟨aBI _ _,fun Mf he=>?_⟩
    have hd:=Ũ he.cons
    simp only[rest,ata,hd]
    exact⟨by simp,.inr ⟨hb,t,rfl⟩⟩
 | rowf t g =>
   simp only[agz] at e
   split at e<;>try (cases e; done)
   rename_i id hb
   split at e<;>try (cases e; done)
   rename_i t' g' xs hl
   split at e<;>try (cases e; done)
   split at e<;>try (cases e; done)
   rename_i hg _
   subst hg
   cases e
   refine⟨aBI _ _,fun Mf he=>?_⟩
   have hd:=Ũ he.cons
   simp only[rest,ata,hd]
   exact⟨by simp,.inl ⟨id,hb,by rw[hl]; rfl⟩⟩
 | rowv t =>
   simp only[agz] at e
   split at e<;>try (cases e; done)
   ·rename_i id hb
    split at e<;>try (cases e; done)
    rename_i t' g xs hl
    split at e<;>try (cases e; done)
    cases e
    refine⟨aMI _ _,fun Mf he=>?_⟩
    have hd:=Ũ he.vars
    simp only[rest,ata,hd]
    exact⟨by simp,.inl ⟨id,hb,by rw[hl]; rfl⟩⟩
   ·rename_i hb
    cases e
    refine⟨aMI _ _,fun Mf he=>?_⟩
    have hd:=Ũ he.vars
    simp only[rest,ata,hd]
    exact⟨by simp,.inr ⟨hb,t,rfl⟩⟩
 | mapc k v =>
   simp only[agz] at e
   split at e<;>try (cases e; done)
   rename_i id hb
   split at e<;>try (cases e; done)
   rename_i k' v' es hl
   split at e<;>try (cases e; done)
   cases e
   refine⟨aBI _ _,fun Mf he=>?_⟩
   have hd:=Ũ he.cons
   simp only[rest,ata,hd]
   exact⟨by simp,.inl ⟨id,hb,by rw[hl]; rfl⟩⟩
 | mapv k v =>
   simp only[agz] at e
   split at e<;>try (cases e; done)
   rename_i id hb
   split at e<;>try (cases e; done)
   rename_i k' v' es hl
   split at e<;>try (cases e; done)
   cases e
   refine⟨aMI _ _,fun Mf he=>?_⟩
   have hd:=Ũ he.vars
   simp only[rest,ata,hd]
   exact⟨by simp,.inl ⟨id,hb,by rw[hl]; rfl⟩⟩
theorem aWU (H:HR ν h w) {p:adK} {i id:Nat} {M M1:Mt} {cs:List AV} (e:agz h p i M=some M1) (hb:afw M.bd i=some (.at_ id)) (hl:lkB h id=.cells cs) {Mf:Mt} (he:Ext M1 Mf) (F:Fin ν h w Mf h') {us:List Value} (hv:Ė (VRc ν h w) cs us) :
 ∃cs',(ata p (rest Mf M)).1=.cells cs'∧Ė (VRc (νb Mf.bd ν) h' w) cs' us:=by
 cases p with
 | cells ps =>
   simp only[agz,hb,hl] at e
   exact⟨_,rfl,atZ H e Mf he F hv⟩
 |dead=>simp[agz,hb,hl] at e
 |rowc t=>simp[agz,hb,hl] at e
 |rowf t g=>simp[agz,hb,hl] at e
 |rowv t=>simp[agz,hb,hl] at e
 |mapc k v=>simp[agz,hb,hl] at e
 |mapv k v=>simp[agz,hb,hl] at e
theorem ayp (p:adK) (ps:List adK) (I:It):av4 (p::ps) I=((ata p I).1::(av4 ps (ata p I).2).1,(av4 ps (ata p I).2).2):=rfl
theorem az5:∀(ps:List adK) (I:It),(av4 ps I).1.length=ps.length
 |[],_=>rfl
 |p::ps,I=>by rw[ayp]; simp[az5 ps]
theorem asj:∀{ps:List adK} {i:Nat} {M M1:Mt},aII h ps i M=some M1→Ext M M1∧∀Mf,Ext M1 Mf→∀k,k<ps.length →
 (∃id,afw Mf.bd (i+k)=some (.at_ id)∧kin (lkB h id) (lkB (av4 ps (rest Mf M)).1 k))∨(afw Mf.bd (i+k)=some .new∧∃t,lkB (av4 ps (rest Mf M)).1 k=.row t 0 false [])
 |[],i,M,M1,e=>by cases e; exact⟨Ext.refl _,fun Mf _ k hk=>by simp at hk⟩
 | p :: ps, i, M, M1, e => by
   simp only[aII] at e
   split at e<;>try (cases e; done)
   rename_i M2 h1
   obtain⟨e1,t1⟩:=aCt h1
   obtain⟨e2,t2⟩:=asj e
   refine⟨e1.trans e2,fun Mf he k hk=>?_⟩
   obtain⟨t3,t4⟩:=t1 Mf (e2.trans he)
   rw[ayp,t3]
   cases k with
   | zero =>
     rcases t4 with⟨id,q1,q2⟩|⟨q1,q2⟩
     ·exact .inl ⟨id,(e1.trans (e2.trans he)).bd _ _ q1,q2⟩
     ·exact .inr ⟨(e1.trans (e2.trans he)).new _ q1,q2⟩
   | succ k =>
     have:=t2 Mf he k (by simpa using hk)
     rw[show i+(k+1)=i+1+k by omega]
     exact this
theorem aOq (H:HR ν h w):∀{ps:List adK} {i:Nat} {M M1:Mt},aII h ps i M=some M1→∀Mf,Ext M1 Mf→Fin ν h w Mf h'→∀k id cs us,k<ps.length→afw Mf.bd (i+k)=some (.at_ id)→lkB h id=.cells cs→Ė (VRc ν h w) cs us →
 ∃cs',lkB (av4 ps (rest Mf M)).1 k=.cells cs'∧Ė (VRc (νb Mf.bd ν) h' w) cs' us
 |[],i,M,M1,e,Mf,_,_,k,_,_,_,hk,_,_,_=>by simp at hk
 | p :: ps, i, M, M1, e, Mf, he, F, k, id, cs, us, hk, hb, hl, hv => by
   simp only[aII] at e
   split at e<;>try (cases e; done)
   rename_i M2 h1
   obtain⟨e1,t1⟩:=aCt h1
   obtain⟨e2,t2⟩:=asj e
   obtain⟨t3,t4⟩:=t1 Mf (e2.trans he)
   rw[ayp,t3]
   cases k with
   | zero =>
     rcases t4 with⟨id',q1,q2⟩|⟨q1,q2⟩
     ·have:=(e1.trans (e2.trans he)).bd _ _ q1
      have hb':afw Mf.bd i=some (.at_ id):=hb
      rw[this] at hb'
      cases hb'
      exact aWU H h1 q1 hl (e2.trans he) F hv
     ·have:=(e1.trans (e2.trans he)).new _ q1
      have hb':afw Mf.bd i=some (.at_ id):=hb
      rw[this] at hb'
      cases hb'
   |succ k=>exact aOq H e Mf he F k id cs us (by simpa using hk) (by rw[show i+1+k=i+(k+1) by omega]; exact hb) hl hv
theorem awa:∀{l:List Bd} {i id:Nat},afw l i=some (.at_ id)→id∈aA9 l
 |[],_,_,h=>by cases h
 | x :: l, 0, id, h => by
   simp only[afw,Option.some.injEq] at h
   subst h; simp[aA9]
 | x :: l, i + 1, id, h => by
   have:=awa (l:=l) (i:=i) (id:=id) h
   cases x<;>simp[aA9,this]
theorem az8:∀{l:List Bd} {i j id:Nat},amF (aA9 l)=true→afw l i=some (.at_ id)→afw l j=some (.at_ id)→i=j
 |[],_,_,_,_,h,_=>by cases h
 |x::l,0,0,_,_,_,_=>rfl
 | x :: l, 0, j + 1, id, hd, h1, h2 => by
   simp only[afw,Option.some.injEq] at h1
   subst h1
   simp only[aA9,amF,Bool.and_eq_true] at hd
   have:=awa (l:=l) (i:=j) (id:=id) h2
   simp[this] at hd
 | x :: l, i + 1, 0, id, hd, h1, h2 => by
   simp only[afw,Option.some.injEq] at h2
   subst h2
   simp only[aA9,amF,Bool.and_eq_true] at hd
   have:=awa (l:=l) (i:=i) (id:=id) h1
   simp[this] at hd
 | x :: l, i + 1, j + 1, id, hd, h1, h2 => by
   have hd':amF (aA9 l)=true:=by
    cases x<;>simp only[aA9,amF,Bool.and_eq_true] at hd<;>first|exact hd|exact hd.2
   rw[az8 (l:=l) hd' h1 h2]
theorem aUy {pin n i:Nat} (hi:i<pin) (hn:pin≤n):afw (arY pin n) i=some (.at_ i):=by
 have key:∀(l:List Bd) (k:Nat),afw l k=l[k]?:=by
  intro l
  induction l with
  |nil=>intro k; simp[afw]
  | cons x l ih => intro k; cases k with
    |zero=>rfl
    |succ k=>simpa[afw] using ih k
 rw[key,arY,List.getElem?_map,List.getElem?_range (by omega)]
 simp[hi]
theorem aJg:∀{pin:Nat},aZG h pin=true→∀i,i<pin→∀t g xs,lkB h i=.row t g false xs→g=0
 |0,_,i,hi,_,_,_,_=>by omega
 | pin + 1, hg, i, hi, t, g, xs, hl => by
   simp only[aZG] at hg
   split at hg<;>try (cases hg; done)
   rename_i hne
   rcases Nat.lt_succ_iff_lt_or_eq.1 hi with h1|rfl
   ·exact aJg hg i h1 t g xs hl
   ·cases g with
    |zero=>rfl
    |succ g=>exact absurd hl (hne _ _ _)
theorem aEQ:∀(l:List AV) (n k:Nat),lk (l++List.replicate n .any) k=lk l k
 |[],0,_=>rfl
 |[],n+1,0=>rfl
 |[],n+1,k+1=>by simpa[List.replicate_succ,lk] using aEQ [] n k
 |x::l,n,0=>rfl
 |x::l,n,k+1=>by simpa[lk] using aEQ l n k
theorem az4:∀(ps:List Pat) (I:It),(ayo ps I).1.length=ps.length
 |[],_=>rfl
 |p::ps,I=>by rw[ak6]; simp[az4 ps]
theorem atX:aYL:=by
 intro T pin cs vs S p v ν a w e H
 unfold atY at e
 split at e<;>try (cases e; done)
 rename_i hc
 simp only[Bool.and_eq_true,decide_eq_true_eq] at hc
 obtain⟨c1,c2,c3,c4⟩:=hc
 split at e<;>try (cases e; done)
 rename_i M0 hL
 split at e<;>try (cases e; done)
 rename_i M hH
 split at e<;>try (cases e; done)
 rename_i hd
 simp only[Bool.and_eq_true,List.all_eq_true] at hd
 obtain⟨d1,d2⟩:=hd
 split at e<;>try (cases e; done)
 rename_i p' v' hp hv
 cases e
 have ep:aRk cs p=M.cons:=aS9 cs _ _ hp
 have ev:aRk vs v=M.vars:=aS9 vs _ _ hv
 obtain⟨eL,tL⟩:=asi hL
 obtain⟨eH,tH⟩:=asj hH
 -- the state of the pattern
 have hI0:({cons:=aRk cs p,vars:=aRk vs v}:It)=rest M {bd:=arY pin T.heap.length,cons:=[],vars:=[],freed:=[]}:=by
  simp[rest,ep,ev]
 have hinst:adS T cs vs p v={t:=(ayo T.slots (rest M {bd:=arY pin T.heap.length,cons:=[],vars:=[],freed:=[]})).1++List.replicate (T.n-T.slots.length) .any,h:=(av4 T.heap (rest M M0)).1}:=by
  unfold adS
  rw[hI0]
  have:=tL M eH
  show(St.mk _ _)=_
  rw[show(ayo T.slots (rest M {bd:=arY pin T.heap.length,cons:=[],vars:=[],freed:=[]})).2=rest M M0 from this]
 rw[hinst]
 have hblen:M.bd.length=T.heap.length:=by rw[eH.len,eL.len]; simp[arY]
 have hhlen:(av4 T.heap (rest M M0)).1.length=T.heap.length:=az5 _ _
 have F:Fin ν S.h w M (av4 T.heap (rest M M0)).1:=by
  refine⟨fun i id hb=>?_,fun i hb=>?_,fun i h1 h2=>?_,fun id hid i hb=>?_,fun i j id=>az8 d1⟩
  ·have hi:i<T.heap.length:=by rw[←hblen]; exact ayj hb
   rcases tH M (Ext.refl _) i hi with⟨id',q1,q2⟩|⟨q1,_⟩
   ·rw[Nat.zero_add,hb] at q1; cases q1; exact q2
   ·rw[Nat.zero_add,hb] at q1; cases q1
  ·have hi:i<T.heap.length:=by rw[←hblen]; exact ayj hb
   rcases tH M (Ext.refl _) i hi with⟨id',q1,q2⟩|⟨q1,q2⟩
   ·rw[Nat.zero_add,hb] at q1; cases q1
   ·exact q2
  ·rcases Nat.lt_or_ge i T.heap.length with hi|hi
   ·rcases tH M (Ext.refl _) i hi with⟨id',q1,q2⟩|⟨q1,q2⟩
    ·rw[Nat.zero_add] at q1; exact absurd q1 (h1 id')
    ·rw[Nat.zero_add] at q1; exact absurd q1 h2
   ·exact aI4 _ _ (by rw[hhlen]; exact hi)
  ·have:=d2 id hid
   have hm:=awa hb
   simp[hm] at this
 have hHR:HR (νb M.bd ν) (av4 T.heap (rest M M0)).1 w:=by
  refine⟨fun i=>?_,fun i j b hi hj hbi hbj=>?_,H.heap.ghlt,fun i b hl hb hg=>?_⟩
  rotate_left 2
  ·obtain⟨id,q1,q2⟩:=F.subL b ⟨i,hl,hb⟩
   exact H.heap.ghne id b q1 q2 hg
  ·cases hb:afw M.bd i with
   |none=>rw[F.out i (by simp[hb]) (by simp[hb])]; trivial
   | some x =>
     cases x with
     |open_=>rw[F.out i (by simp[hb]) (by simp[hb])]; trivial
     | new =>
       obtain⟨t,ht⟩:=F.new i hb
       rw[ht]
       exact⟨none,0,aV0 hb,Nat.le_refl _,.inl ⟨rfl,rfl⟩⟩
     | at_ id =>
       have hk:=F.at_ i id hb
       have hB:=H.heap.blk id
       cases hl:lkB S.h id with
       |dead=>rw[hl] at hk; rw[show lkB _ i=_ from hk]; trivial
       | cells c =>
         rw[hl] at hB
         obtain⟨b,arr,e',q1,q2,q3⟩:=hB
         have hi:i<T.heap.length:=by rw[←hblen]; exact ayj hb
         obtain⟨cs',q4,q5⟩:=aOq H.heap hH M (Ext.refl _) F i id c arr.toList hi (by rw[Nat.zero_add]; exact hb) hl q3
         rw[q4]
         exact⟨b,arr,e',(amN hb).trans q1,q2,q5⟩
       | row t g fz xs =>
         rw[hl] at hk hB
         cases fz with
         | true =>
           rw[show lkB _ i=_ from hk]
           show CR w _ (.slice t) xs [_]
           rw[amN hb]
           exact CR.mono F.sub hB
         | false =>
           rw[show lkB _ i=_ from hk]
           obtain⟨base,cap,q1,q2,q3⟩:=hB
           refine⟨base,cap,(amN hb).trans q1,q2,?_⟩
           rcases q3 with q3|⟨b,off,c,e',q4,q5,q6,q7⟩
           ·exact .inl q3
           ·refine .inr ⟨b,off,c,e',q4,q5,q6,fun j x hx=>?_⟩
            obtain⟨us,q8,q9⟩:=q7 j x hx
            exact⟨us,CR.mono F.sub q8,q9⟩
       | map k u es =>
         rw[hl] at hk hB
         rw[show lkB _ i=_ from hk]
         obtain⟨b,entries,clock,q1,q2,q3,q4⟩:=hB
         refine⟨b,entries,clock,(amN hb).trans q1,q2,q3,fun j x hx=>?_⟩
         obtain⟨m,us,q5,q6,q7,q8⟩:=q4 j x hx
         exact⟨m,us,q5,CR.mono F.sub q6,CR.mono F.sub q7,q8⟩
  ·have at1:∀i,(lkB (av4 T.heap (rest M M0)).1 i).live=true→Ĭ (νb M.bd ν i)=some b→∃id,afw M.bd i=some (.at_ id)∧(lkB S.h id).live=true∧Ĭ (ν id)=some b:=fun i hi hbi=>by
    cases hb:afw M.bd i with
    |none=>rw[F.out i (by simp[hb]) (by simp[hb])] at hi; cases hi
    | some x =>
      cases x with
      |open_=>rw[F.out i (by simp[hb]) (by simp[hb])] at hi; cases hi
      |new=>simp[νb,hb,Ĭ] at hbi
      | at_ id =>
        refine⟨id,rfl,?_,by simpa[νb,hb] using hbi⟩
        have hk:=F.at_ i id hb
        cases hB':lkB S.h id with
        |dead=>rw[hB'] at hk; rw[show lkB _ i=_ from hk] at hi; cases hi
        |cells=>rfl
        |map=>rfl
        | row t g fz xs =>
          cases fz with
          |false=>rfl
          |true=>rw[hB'] at hk; rw[show lkB _ i=_ from hk] at hi; cases hi
   obtain⟨id,q1,q2,q3⟩:=at1 i hi hbi
   obtain⟨id',q4,q5,q6⟩:=at1 j hj hbj
   have:=H.heap.inj id id' b q2 q5 q3 q6
   subst this
   exact F.inj i j id q1 q4
 have hpin:∀i,i<pin→afw M.bd i=some (.at_ i):=fun i hi=>(eL.trans eH).bd i i (aUy hi c1)
 refine⟨νb M.bd ν,⟨H.defers,?_,fun i=>?_,hHR⟩,⟨rfl,rfl,rfl,Nat.le_refl _,fun b _ hb=>⟨rfl,fun hb'=>hb (F.subL b hb')⟩,fun i hi=>?_⟩,by rw[hhlen]; exact c1,fun i hi hdead=>?_⟩
 ·have:=H.len
  simp only[List.length_append,List.length_replicate,az4]
  omega
 ·simp only[aEQ]
  exact aOp H.heap hL M eH F (fun k=>a.tmps.getD k undef) (fun k=>H.tmps k) i
 ·have hb:=hpin i hi
  have hk:=F.at_ i i hb
  cases hl:lkB S.h i with
  |dead=>trivial
  |cells c=>rw[hl] at hk; exact⟨hk,amN hb⟩
  | row t g fz xs =>
    rw[hl] at hk
    cases fz with
    |true=>exact⟨g,true,xs,hk,Nat.le_refl _,fun _=>⟨amN hb,rfl⟩⟩
    | false =>
      have hg:=aJg c4 i hi t g xs hl
      exact⟨0,false,xs,hk,by omega,fun _=>⟨amN hb,rfl⟩⟩
  |map k u es=>rw[hl] at hk; exact⟨⟨es,hk⟩,amN hb⟩
 ·have hk:=F.at_ i i (hpin i hi)
  rw[hdead] at hk
  exact hk
end
end Go.Am
end
noncomputable section
namespace Go.Am
variable [ò]
section
variable {ρ:Type} {ν ν':Nat→Value} {h h':List Blk} {w w':World} {P:Program}
def afa (w:World) (G:Nat→Prop) (t:Ty) (x:Val t) (v:Value):Prop:=∃us,CR w G t x us∧v=ant t us
def AT (w:World) (G:Nat→Prop):(l:List Ty)→(t:Ty)→Val (tys t l)→List Value→Prop
 |[],t,x,vs=>∃v,vs=[v]∧afa w G t x v
 |u::l,t,x,vs=>∃v vs',vs=v::vs'∧afa w G t (x:Val t×Val (tys u l)).1 v∧AT w G l u (x:Val t×Val (tys u l)).2 vs'
def AL (w:World) (G:Nat→Prop):(l:List Ty)→Val (tyL l)→List Value→Prop
 |[],_,vs=>vs=[]
 |t::l,x,vs=>AT w G l t x vs
def RR (w:World) (G:Nat→Prop):(l:List Ty)→Val (tyL l)→Value→Prop
 |[],_,u=>u=.tuple #[]
 |[t],x,u=>afa w G t x u
 |t::u'::l,x,u=>∃vs,u=.tuple vs∧AT w G (u'::l) t x vs.toList
def Î (P:Program) (f:Nat) (p:Ö):Prop :=
 ∀(G:Nat→Prop) (x:Val (tyL p.ts)) (y:Val (tyL p.rs)),p.F x=some y→∀(w:World) (vals:List Value),(∀b,G b→b<w.heap.size)→AL w G p.ts x vals →
  (∃fn c,P.funcs[f]?=some fn∧fn.body=some c) ∧
  CallsIn Fence.wide 0 P f vals.toArray w fun e w'=>∃u,e=.returned u∧RR w' G p.rs y u∧(∀b,b<w.heap.size→w'.heap[b]?=w.heap[b]?)∧w.heap.size≤w'.heap.size∧w'.os=w.os∧w'.tape=w.tape∧w'.output=w.output
theorem aMN {a:AV} {vs:List AV} (e:ō a=some vs):afE a=vs:=by
 cases a<;>simp only[ō,Option.some.injEq,reduceCtorEq] at e<;>exact e
theorem apn {G:Nat→Prop} {t:Ty} {x:Val t} {a:AV} {v:Value} {vs:List AV} (hag:(aJc a==t.isAgg)=true) (hc:ō a=some vs) (hv:VR ν h w a v)
 (hs:∀c∈afE a,∀u,VR1 ν h w c u→VRs w G (þ h c) u) (e:ä t (vs.map (þ h))=some x):afa w G t x v:=by
 have h1:=hv.cells hc
 have h2:Ė (VRs w G) (vs.map (þ h)) v.cells.toList:=Ė.map_left (aux vs _ h1 fun c hm u hu=>hs c (by rw[aMN hc]; exact hm) u hu.1)
 refine⟨_,Ş e h2,?_⟩
 cases ha:a.isAgg with
 | true =>
   cases a<;>try cases ha
   obtain⟨us,rfl,_⟩:=hv
   have:t.isAgg=true:=by simpa[aJc] using hag
   simp[ant,this,Value.cells]
 | false =>
   have hn:aJc a=false:=by cases a<;>first|rfl|cases ha
   have htf:t.isAgg=false:=by rw[hn] at hag; simpa using hag
   have htu:a.isTup=false:=by cases a<;>first|rfl|cases hc
   have h3:=(hv.one ha htu).oneCell hc
   simp[ant,htf,aFu h3]
where
 aux {w:World} {G:Nat→Prop} {ν:Nat→Value} {h:List Blk} (vs:List AV) (us:List Value) (h1:Ė (VRc ν h w) vs us) (hh:∀c∈vs,∀u,VRc ν h w c u→VRs w G (þ h c) u):Ė (fun c b=>VRs w G (þ h c) b) vs us:=by
  induction vs generalizing us with
  | nil => cases us with
    |nil=>trivial
    |cons=>exact h1.elim
  | cons c vs ih => cases us with
    |nil=>exact h1.elim
    |cons u us=>exact⟨hh c (by simp) u h1.1,ih us h1.2 fun c hm u hu=>hh c (by simp[hm]) u hu⟩
theorem aM2 (H:HR ν h w) {G:Nat→Prop} {t:Ty} {x:Val t} {a:AV} {v:Value} (hv:VR ν h w a v)
 (hs:∀c∈afE a,∀u,VR1 ν h w c u→VRs w G (þ h c) u) (hb:∀id cs,a=.box id 0→lkB h id=.cells cs→(∀b,Ĭ (ν id)=some b→¬G b)∧∀c∈cs,∀u,VR1 ν h w c u→VRs w G (þ h c) u) (e:a0l h t a=some x):afa w G t x v:=by
 cases ht:(match t with|.ptr _=>true|_=>false) with
 | false =>
   have e':(match aJc a==t.isAgg with|true=>(match ō (aTd h a) with|some cs=>ä t cs|none=>none)|false=>none)=some x:=by
    cases t<;>first|exact e|cases ht
   split at e'<;>try (cases e'; done)
   rename_i hag
   split at e'<;>try (cases e'; done)
   rename_i cs hcs
   obtain⟨vs,h1,rfl⟩:=awS hcs
   exact apn hag h1 hv hs e'
 | true =>
   cases t<;>try cases ht
   rename_i u
   simp only[a0l] at e
   split at e<;>try (cases e; done)
   ·rename_i id
    split at e<;>try (cases e; done)
    rename_i cs hl
    obtain⟨cs',b,h1,h2,h3⟩:=hv.one rfl rfl
    have hB:=H.blk id
    rw[hl] at hB
    obtain⟨b',c,e',h4,h5,h6⟩:=hB
    rw[h2] at h4; cases h4
    obtain⟨hG,hcs⟩:=hb id cs rfl hl
    have hcr:CR w G u x c.toList:=Ş e (Ė.map_left (apn.aux cs _ h6 fun c hc u hu=>hcs c hc u hu.1))
    refine⟨[v],⟨b,0,c.toList,by rw[h3],hG b (by rw[h2]; rfl),Ķ h5,hcr,ľ.of_cells h5⟩,rfl⟩
   ·rename_i t' y
    split at e<;>try (cases e; done)
    rename_i heq _
    subst heq
    cases e
    have h1:=hs _ (by simp[afE]) v (hv.one rfl rfl)
    obtain⟨b,o,us,h2,h3,h4,h5,h6⟩:=h1
    exact⟨[v],⟨b,o,us,by rw[h2]; rfl,h3,h4,h5,h6⟩,rfl⟩
theorem aFO (H:HR ν h w) {G:Nat→Prop}:∀(l:List Ty) (t:Ty) (x:Val (tys t l)) (as:List AV) (vs:List Value),Ė (VR ν h w) as vs →
 (∀a∈as,∀c∈afE a,∀u,VR1 ν h w c u→VRs w G (þ h c) u)→(∀a∈as,∀id cs,a=.box id 0→lkB h id=.cells cs→(∀b,Ĭ (ν id)=some b→¬G b)∧∀c∈cs,∀u,VR1 ν h w c u→VRs w G (þ h c) u)→aM1 h l t as=some x→AT w G l t x vs
 |[],t,x,[],vs,_,_,_,e=>by cases e
 | [], t, x, [a], vs, hv, hs, hb, e => by
   obtain⟨v,rfl,h1⟩:=hv.one
   exact⟨v,rfl,aM2 H h1 (hs a (by simp)) (hb a (by simp)) e⟩
 |[],t,x,_::_::_,vs,_,_,_,e=>by cases e
 |u::l,t,x,[],vs,_,_,_,e=>by cases e
 |u::l,t,x,a::as,[],hv,_,_,e=>hv.elim
 | u :: l, t, x, a :: as, v :: vs, hv, hs, hb, e => by
   simp only[aM1] at e
   split at e<;>try (cases e; done)
   rename_i y hy
   split at e<;>try (cases e; done)
   rename_i z hz
   cases e
   exact⟨v,vs,rfl,aM2 H hv.1 (hs a (by simp)) (hb a (by simp)) hy,aFO H l u z as vs hv.2 (fun a ha=>hs a (by simp[ha])) (fun a ha=>hb a (by simp[ha])) hz⟩
theorem aFP (H:HR ν h w) {G:Nat→Prop} {l:List Ty} {x:Val (tyL l)} {as:List AV} {vs:List Value} (hv:Ė (VR ν h w) as vs)
 (hs:∀a∈as,∀c∈afE a,∀u,VR1 ν h w c u→VRs w G (þ h c) u) (hb:∀a∈as,∀id cs,a=.box id 0→lkB h id=.cells cs→(∀b,Ĭ (ν id)=some b→¬G b)∧∀c∈cs,∀u,VR1 ν h w c u→VRs w G (þ h c) u) (e:awE h l as=some x):AL w G l x vs:=by
 cases l with
 | nil => cases as with
   |nil=>exact hv.nil_left
   |cons=>cases e
 |cons t l=>exact aFO H l t x as vs hv hs hb e
theorem afa.mono {G G':Nat→Prop} (hm:∀b,G' b→G b) {t:Ty} {x:Val t} {v:Value} (hv:afa w G t x v):afa w G' t x v:=by
 obtain⟨us,h1,h2⟩:=hv
 exact⟨us,CR.mono hm h1,h2⟩
theorem ayu {av av':Nat→Prop}:∀{t:Ty} {x:Val t} {us:List Value},(flat t x).all aqB=true→CR w av t x us→CR w av' t x us
 |.unit,_,_,_,hc=>hc
 |.bool,_,_,_,hc=>hc
 |.int _,_,_,_,hc=>hc
 |.str,_,_,_,hc=>hc
 |.slice _,_,_,hp,_=>by simp[flat,aqB] at hp
 |.map _ _,_,_,hp,_=>by simp[flat,aqB] at hp
 |.ptr _,_,_,hp,_=>by simp[flat,aqB] at hp
 | .pair a b, x, us, hp, hc => by
   simp only[flat,List.all_append,Bool.and_eq_true] at hp
   obtain⟨u1,u2,e,h1,h2⟩:=hc
   exact⟨u1,u2,e,ayu hp.1 h1,ayu hp.2 h2⟩
theorem aXC {t:Ty} {x:Val t} (hp:plain (enc t x)=true):(flat t x).all aqB=true:=by
 cases t<;>first|exact hp|(simp only[enc,plain,aqB] at hp; simp[flat,aqB])|(simp[enc,plain,aqB] at hp)
theorem afa.plain {G G':Nat→Prop} {t:Ty} {x:Val t} {v:Value} (hp:plain (enc t x)=true) (hv:afa w G t x v):afa w G' t x v:=by
 obtain⟨us,h1,h2⟩:=hv
 exact⟨us,ayu (aXC hp) h1,h2⟩
theorem AT.plain {G G':Nat→Prop}:∀{l:List Ty} {t:Ty} {x:Val (tys t l)} {vs:List Value},(aXD l t x).all Go.Am.plain=true→AT w G l t x vs→AT w G' l t x vs
 |[],t,x,vs,hp,⟨v,h1,h2⟩=>⟨v,h1,h2.plain (by simpa[aXD] using hp)⟩
 | u :: l, t, x, vs, hp, ⟨v, vs', h1, h2, h3⟩ => by
   simp only[aXD,List.all_cons,Bool.and_eq_true] at hp
   exact⟨v,vs',h1,h2.plain hp.1,AT.plain hp.2 h3⟩
theorem aNL {v:AV} (hp:v.isTup=false):aB9 v=Go.Am.plain v:=by cases v<;>first|rfl|cases hp
theorem ayz {t:Ty} {x:Val t}:(enc t x).isTup=false:=by cases t<;>rfl
theorem RR.plain {G G':Nat→Prop}:∀{l:List Ty} {x:Val (tyL l)} {u:Value},aB9 (aQT l x)=true→RR w G l x u→RR w G' l x u
 |[],_,_,_,h=>h
 |[t],x,u,hp,h=>afa.plain ((aNL (ayz (t:=t) (x:=x))).symm.trans hp) h
 |t::u'::l,x,u,hp,⟨vs,h1,h2⟩=>⟨vs,h1,h2.plain hp⟩
theorem afa.VR {t:Ty} {x:Val t} {v:Value} (hv:afa w (Av ν h) t x v):VR ν h w (enc t x) v:=by
 obtain⟨us,h1,rfl⟩:=hv
 exact az7 h1
theorem AT.VR:∀{l:List Ty} {t:Ty} {x:Val (tys t l)} {vs:List Value},AT w (Av ν h) l t x vs→Ė (VR ν h w) (aXD l t x) vs
 |[],t,x,_,⟨v,rfl,h2⟩=>⟨h2.VR,trivial⟩
 |u::l,t,x,_,⟨v,vs',rfl,h2,h3⟩=>⟨h2.VR,AT.VR h3⟩
theorem aFk:∀{l:List Ty} {t:Ty} {x:Val (tys t l)},∀a∈aXD l t x,a.isTup=false
 |[],t,x,a,hm=>by simp only[aXD,List.mem_singleton] at hm; rw[hm]; exact ayz
 | u :: l, t, x, a, hm => by
   simp only[aXD,List.mem_cons] at hm
   rcases hm with rfl|hm
   ·exact ayz
   ·exact aFk a hm
theorem Ė.VR2:∀{as:List AV} {vs:List Value},Ė (VR ν h w) as vs→(∀a∈as,a.isTup=false)→Ė (VR2 ν h w) as vs
 |[],[],_,_=>trivial
 |a::as,v::vs,hv,hn=>⟨by rw[←ayQ (hn a (by simp))]; exact hv.1,Ė.VR2 hv.2 fun a ha=>hn a (by simp[ha])⟩
 |[],_::_,hv,_=>hv.elim
 |_::_,[],hv,_=>hv.elim
theorem RR.VR:∀{l:List Ty} {x:Val (tyL l)} {u:Value},RR w (Av ν h) l x u→VR ν h w (aQT l x) u
 |[],_,_,h=>by cases h; exact⟨#[],rfl,trivial⟩
 |[t],x,u,h=>afa.VR h
 |t::u'::l,x,u,⟨vs,h1,h2⟩=>⟨vs,h1,Ė.VR2 h2.VR aFk⟩
def aAe (P:Program) (g:Nat) (ν:Nat→Value) (h:List Blk) (w:World) (vals:List Value) (K:AV→List Blk→Option ρ) (r:ρ):Prop :=
 (∃fn c,P.funcs[g]?=some fn∧fn.body=some c) ∧
 CallsIn Fence.wide 0 P g vals.toArray w fun e w'=>∃ν' h' v u,e=.returned u∧VR ν' h' w' v u∧HR ν' h' w'∧Ev h.length ν h w ν' h' w'∧h.length≤h'.length∧(∀j,j<h.length→lkB h j=.dead→lkB h' j=.dead)∧K v h'=some r
theorem aTP {c:AV} {u:Value}:∀{as:List AV} {h:List Blk},HR ν h w→c∈as→aIE c=true→VR1 ν h w c u→VRs w (Av ν (apR h as)) (þ h c) u
 |[],_,_,hm,_,_=>by cases hm
 | a :: as, h, H, hm, hn, hv => by
   obtain⟨e1,H1,l1⟩:=aMz H a
   rcases List.mem_cons.1 hm with rfl|hm
   ·exact VRs.mono ((atc as H1).2.2) (aP3 H hv hn)
   ·have:=aTP (as:=as) H1 hm hn (hv.ev e1)
    rwa [awT] at this
theorem aUH {f:Nat} {p:Ö} (hp:Î P f p) {b:Bool} {args:List AV} {K:AV→List Blk→Option ρ} {r:ρ} (e:aJT b p h args K=some r) (H:HR ν h w) {vals:List Value} (hv:Ė (VR ν h w) args vals):aAe P f ν h w vals K r:=by
 unfold aJT at e
 split at e<;>try (cases e; done)
 rename_i x hx
 simp only[Â] at e
 split at e<;>try (cases e; done)
 rename_i y hy
 -- the call, with what may not be touched
 have call:∀(G:Nat→Prop),(∀b,G b→b<w.heap.size)→AL w G p.ts x vals→∀(h':List Blk),HR ν h' w→Ev h.length ν h w ν h' w→h.length≤h'.length→(∀j,j<h.length→lkB h j=.dead→lkB h' j=.dead) →
  (∀w' u,RR w' G p.rs y u→RR w' (Av ν h') p.rs y u)→K (aQT p.rs y) h'=some r→aAe P f ν h w vals K r:=by
  intro G hG hal h' H' ev hl hdead hrr hK
  obtain⟨h1,h2⟩:=hp G x y hy w vals hG hal
  refine⟨h1,h2.mono fun e w' hw=>?_⟩
  obtain⟨u,rfl,g1,g2,g3,g4,g5,g6⟩:=hw
  obtain⟨ev',H''⟩:=H'.grow g2 g3 g4 g5 g6 h.length
  exact⟨ν,h',_,u,rfl,(hrr w' u g1).VR,H'',ev.trans ev' (Nat.le_refl _),hl,hdead,hK⟩
 split at e
 ·rename_i hpl
  exact call (fun _=>False) (fun _ hf=>hf.elim) (aFP H hv (fun a _ c _ u hu=>aNy H hu) (fun _ _ _ _ _ _=>⟨fun _ _ hf=>hf,fun c _ u hu=>aNy H hu⟩) hx) h H (Ev.refl _ _ _ _) (Nat.le_refl _) (fun _ _ hd=>hd) (fun w' u hr=>hr.plain hpl) e
 ·split at e
  ·rename_i hown
   have hown':∀a∈args,alq a=false:=fun a ha=>by have:=List.all_eq_true.1 hown a ha; simpa using this
   refine call (Av ν h) (fun b hb=>H.ltA hb) (aFP H hv (fun a ha c hc u hu=>?_) (fun a ha id cs hid _=>?_) hx) h H (Ev.refl _ _ _ _) (Nat.le_refl _) (fun _ _ hd=>hd) (fun w' u hr=>hr) e
   ·have hc1:aM6 c=false:=by
     have:=hown' a ha
     cases a<;>first
      |(simp only[afE,List.mem_singleton] at hc; subst hc; exact this)
      |(simp only[afE] at hc; simp only[alq,List.any_eq_false] at this; simpa using this c hc)
    have:þ h c=c:=by cases c<;>first|rfl|cases hc1
    rw[this]; exact hu.data
   ·subst hid; cases hown' _ ha
  ·split at e<;>try (cases e; done)
   rename_i hnr
   simp only[Bool.or_eq_false_iff,Bool.not_eq_false'] at hnr
   have hnr':∀a∈args,aWL a=true:=List.all_eq_true.1 hnr.2
   obtain⟨ev,H',hsub⟩:=atc (args.flatMap afE) H
   refine call (Av ν (apR h (args.flatMap afE))) (fun b hb=>H'.ltA hb) (aFP H hv (fun a ha c hc u hu=>?_) (fun a ha id cs hid _=>?_) hx) _ H' ev (by rw[Θ]; exact Nat.le_refl _) (fun _ _ hd=>aE0 _ hd) (fun w' u hr=>hr) e
   ·refine aTP H (List.mem_flatMap.2 ⟨a,ha,hc⟩) ?_ hu
    have:=hnr' a ha
    have hc1:aWK c=true:=by
     cases a<;>first
      |(simp only[afE,List.mem_singleton] at hc; subst hc; exact this)
      |(simp only[afE] at hc; simp only[aWL,List.all_eq_true] at this; exact this c hc)
    cases c<;>first|rfl|cases hc1
   ·subst hid; cases hnr' _ ha
end
end Go.Am
end
noncomputable section
namespace Go.Am
variable [ò]
section
variable {ρ:Type} {ν ν':Nat→Value} {h h':List Blk} {w w':World} {P:Program}
theorem aID {v v':AV} (e:aZo v=some v'):v'=v∧v.isTup=false:=by
 cases v<;>simp only[aZo,Option.some.injEq,reduceCtorEq] at e<;>exact⟨e.symm,rfl⟩
theorem aUE {S:St} {a:Act} (H:Sim ν S a w) {rv:ResultVar} {v:AV} (e:aRa P S.h S.t rv=some v) :
 ∃u,(match rv with|.tmp t=>(pure (a.tmps.getD t undef):Sem Value)|.cell x t=>do loadVar t (←asAddr (a.tmps.getD x undef))).run P w=.ok u w∧VR2 ν S.h w v u:=by
 cases rv with
 | tmp i =>
   obtain⟨rfl,ht⟩:=aID e
   have:=H.tmps i
   rw[ayQ ht] at this
   exact⟨_,rfl,this⟩
 | cell x t =>
   simp only[aRa] at e
   split at e<;>try (cases e; done)
   rename_i v' hl
   obtain⟨rfl,ht⟩:=aID e
   obtain⟨u,h1,h2⟩:=aXa H.heap hl (H.tmps x)
   rw[ayQ ht] at h2
   refine⟨u,?_,h2⟩
   simp only[Instr.loadAt] at h1
   cases hx:a.tmps.getD x undef with
   | pointer p =>
     rw[hx] at h1
     cases p with
     |none=>simp[Instr.sureAddr] at h1
     | some ad =>
       show(do loadVar t (←asAddr (a.tmps.getD x undef)):Sem Value).run P w=_
       rw[hx]
       simpa[Instr.sureAddr,asAddr] using h1
   |_=>rw[hx] at h1; simp[Instr.sureAddr] at h1
theorem aIh {S:St} {a:Act} (H:Sim ν S a w):∀{rs:List ResultVar} {vs:List AV},aB5 P S.h S.t rs=some vs →
 ∃us:List Value,(rs.mapM (m:=Sem) fun|.tmp t=>pure (a.tmps.getD t undef)|.cell x t=>do loadVar t (←asAddr (a.tmps.getD x undef))).run P w=.ok us w∧Ė (VR2 ν S.h w) vs us
 |[],vs,e=>by cases e; exact⟨[],rfl,trivial⟩
 | rv :: rs, vs, e => by
   simp only[aB5] at e
   split at e<;>try (cases e; done)
   rename_i v hv
   split at e<;>try (cases e; done)
   rename_i vs' hvs
   cases e
   obtain⟨u,h1,h2⟩:=aUE H hv
   obtain⟨us,h3,h4⟩:=aIh H hvs
   refine⟨u::us,?_,h2,h4⟩
   simp only[List.mapM_cons,Sem.run_bind,Sem.run_pure]
   rw[h1]
   simp only[Result.andThen_ok]
   rw[h3]
   rfl
theorem VR2.up {v:AV} {u:Value} (hv:VR2 ν h w v u):VR ν h w v u:=by
 cases ht:v.isTup with
 | true =>
   cases v<;>try cases ht
   exact hv.elim
 |false=>rw[ayQ ht]; exact hv
theorem awV {S:St} {a:Act} {fn:Func} {v:AV} (H:Sim ν S a w) (e:ah0 P fn S=some v):∃u,(results fn a.tmps).run P w=.ok u w∧VR ν S.h w v u:=by
 unfold ah0 at e
 cases hr:aB5 P S.h S.t fn.results.toList with
 |none=>rw[hr] at e; cases e
 | some vs =>
   obtain⟨us,h1,h2⟩:=aIh H hr
   have hrun:(results fn a.tmps).run P w=.ok (if h:us.toArray.size=1 then us.toArray[0] else .tuple us.toArray) w:=by
    unfold results
    rw[Sem.run_bind,Array.mapM_eq_mapM_toList,Sem.run_map]
    erw [h1]
    rfl
   rw[hr] at e
   rcases vs with _|⟨x,_|⟨y,l⟩⟩<;>rcases us with _|⟨u,_|⟨u',m⟩⟩
   ·cases e; exact⟨_,hrun,⟨#[],by simp,trivial⟩⟩
   ·exact h2.elim
   ·exact h2.elim
   ·exact h2.elim
   ·cases e; exact⟨_,hrun,h2.1.up⟩
   ·exact h2.2.elim
   ·exact h2.elim
   ·exact h2.2.elim
   ·cases e; exact⟨_,hrun,⟨(u::u'::m).toArray,by simp,h2⟩⟩
theorem Ė.lk {R:AV→Value→Prop} (hany:∀u,R .any u):∀{l:List AV} {m:List Value} (i:Nat),Ė R l m→R (Am.lk l i) (m.getD i undef)
 |[],[],i,_=>hany _
 |_::_,_::_,0,h=>h.1
 |_::_,_::_,i+1,h=>by simpa[Am.lk] using Ė.lk hany i h.2
 |[],_::_,_,h=>h.elim
 |_::_,[],_,h=>h.elim
def Flat:Prop:=ò.D=[]∧ò.Q=none
theorem awe (h:ò.Q=none):fen=Fence.wide:=by
 unfold fen
 rw[h]
 rfl
theorem aFj {E:Env ρ} {call:List Nat→Bool→Nat→List AV→List Blk→(AV→List Blk→Option ρ)→Option ρ} {N:Nat} (hE:afG E N call) (hD:afS E N call) {path:List Nat} (hpath:path.length+2=N) {f:Nat} {args:List AV} {K:AV→List Blk→Option ρ} {r:ρ}
 (h0:Flat) (hL:∀fn c,E.P.funcs[f]?=some fn→fn.body=some c→∀x∈ê 0 c,ahi E path f x.1 x.2)
 (e:aTV E call path f args h K=some r) {vals:List Value} (H:HR ν h w) (hargs:Ė (VR ν h w) args vals) :
 (∃fn c,E.P.funcs[f]?=some fn∧fn.body=some c) ∧
 CallsIn Fence.wide 0 E.P f vals.toArray w fun e w'=>∃ν' h' v u,e=.returned u∧VR ν' h' w' v u∧HR ν' h' w'∧Ev h.length ν h w ν' h' w'∧h.length≤h'.length∧(∀j,j<h.length→lkB h j=.dead→lkB h' j=.dead)∧K v h'=some r:=by
 unfold aTV at e
 split at e<;>try (cases e; done)
 rename_i fn hfn
 split at e<;>try (cases e; done)
 rename_i c hc
 refine⟨⟨fn,c,hfn,hc⟩,?_⟩
 refine callsIn_of_wp hfn hc trivial ?_
 have hlen:=hargs.length
 have hS:Sim ν {t:=args++List.replicate (fn.ntmps-args.length) .any,h:=h} {tmps:=vals.toArray++Array.replicate (fn.ntmps-vals.toArray.size) undef,defers:=[]} w:=by
  refine⟨h0.1.symm,by simp[hlen],fun i=>?_,H⟩
  simp only[aEQ]
  rcases Nat.lt_or_ge i args.length with hi|hi
  ·have:=Ė.lk (R:=VR ν h w) (fun _=>trivial) i hargs
   have hv:i<vals.length:=by omega
   have h2:(vals.toArray++Array.replicate (fn.ntmps-vals.toArray.size) undef).getD i undef=vals.getD i undef:=by
    simp[Array.getD_eq_getD_getElem?,Array.getElem?_append,hv]
   rw[h2]; exact this
  ·rw[aXc _ _ hi]; trivial
 have hgo:=afx hE hD hpath c 0 _ _ ν _ w (hL fn c hfn hc) e hS (Nat.le_refl _)
 rw[awe h0.2] at hgo
 refine wpIn_mono hgo fun x a' w' ha=>?_
 obtain⟨ν',S',h1,h2,h3,h4,h5⟩:=ha
 have fin:∀v,ah0 E.P fn S'=some v→K v S'.h=some r→a'.defers=[]∧∃u,(results fn a'.tmps).run E.P w'=.ok u w'∧∃ν' h' v u',Ending.returned u=.returned u'∧VR ν' h' w' v u'∧HR ν' h' w'∧Ev h.length ν h w ν' h' w'∧h.length≤h'.length∧(∀j,j<h.length→lkB h j=.dead→lkB h' j=.dead)∧K v h'=some r:=by
  intro v hv hk
  obtain⟨u,q1,q2⟩:=awV h1 hv
  exact⟨h1.defers.trans h0.1,u,q1,ν',S'.h,v,u,rfl,q2,h1.heap,h2,h3,h4,hk⟩
 cases x with
 | normal =>
   simp only at h5
   split at h5<;>try (cases h5; done)
   exact fin _ ‹_› h5
 | ret =>
   simp only at h5
   split at h5<;>try (cases h5; done)
   exact fin _ ‹_› h5
 |exit id=>cases h5
 |goto l=>cases h5
 |panic ch=>cases h5
 |outgrown=>cases h5
structure aBg (E:Env ρ):Prop where
 pure:∀f p,E.pure f=some p→Î E.P f p
 sort:∀f,E.sort f=true→∀(h:List Blk) (x:AV) (K:AV→List Blk→Option ρ) (r:ρ),aJM h x K=some r→∀ν w u,HR ν h w→VR ν h w x u→aAe E.P f ν h w [u] K r
 compact:∀f,E.compact f=true→∀(h:List Blk) (x:AV) (K:AV→List Blk→Option ρ) (r:ρ),ahH h x K=some r→∀ν w u,HR ν h w→VR ν h w x u→aAe E.P f ν h w [u] K r
 plain : ∀ (f : Nat) (fn : Func), E.P.funcs[f]? = some fn → (fn.name == "runtime.NumGoroutine") = false
 clone:ayT E.P E.clone
 joins:aUp E
omit [ò] in
theorem aiH {E:Env ρ} (n:Nat):(∀f p,E.pure f=some p→∀path draw args h K,aeE E (n+1) path draw f args h K=aJT (draw&&!E.fz f) p h args K) ∧
 (∀f,E.pure f=none→E.sort f=true→∀path draw args h K,aeE E (n+1) path draw f args h K=match args with|[x]=>aJM h x K|_=>none) ∧
 (∀f,E.pure f=none→E.sort f=false→E.compact f=true→∀path draw args h K,aeE E (n+1) path draw f args h K=match args with|[x]=>ahH h x K|_=>none) :=
 ⟨fun f p hf path draw args h K=>by simp only[aeE,hf],fun f hf hs path draw args h K=>by simp only[aeE,hf,hs]; rfl,fun f hf hs hc path draw args h K=>by simp only[aeE,hf,hs,hc]; rfl⟩
theorem agh {E:Env ρ} (h0:Flat∨∀f,E.inl f=false) (hlib:aBg E) (hdraw:∀L call,afG E L call→afS E L call)
 (hloops:∀n,n≤10→afG E (22-2*n) (aeE E n)→∀(path:List Nat) (f:Nat) (fn:Func) (c:Code),path.length+2=22-2*n→E.P.funcs[f]?=some fn→fn.body=some c→∀x∈ê 0 c,ahi E path f x.1 x.2) :
 ∀n,n≤10→aQR E.P (22-2*n) (aeE E n):=by
 intro n
 induction n with
 |zero=>intro _ path draw g args h K r _ e; cases e
 | succ n ih =>
   intro hn path draw g args h K r hp e ν w vals H hargs
   have hE:afG E (22-2*n) (aeE E n):=⟨by
    cases n with
    |zero=>exact .inl fun _ _ _ _ _ _=>rfl
    |succ n=>exact .inr (aiH n),ih (by omega),hlib.plain,hlib.clone,hlib.joins⟩
   simp only[aeE] at e
   split at e
   ·rename_i gm hg
    exact aUH (hlib.pure g gm hg) e H hargs
   ·split at e
    ·rename_i hs
     split at e<;>try (cases e; done)
     rename_i x
     obtain⟨u,rfl,hu⟩:=hargs.one
     exact hlib.sort g hs h x K r e ν w u H hu
    ·split at e
     ·rename_i hc
      split at e<;>try (cases e; done)
      rename_i x
      obtain⟨u,rfl,hu⟩:=hargs.one
      exact hlib.compact g hc h x K r e ν w u H hu
     ·split at e<;>try (cases e; done)
      rename_i hinl
      have hpath:path.length+2=22-2*n:=by omega
      exact aFj hE (hdraw _ _ hE) hpath (h0.resolve_right fun hf=>by rw[hf g] at hinl; cases hinl) (fun fn c h1 h2=>hloops n (by omega) hE path g fn c hpath h1 h2) e H hargs
end
end Go.Am
end
noncomputable section
namespace Go.Am
variable [ò]
section
variable {ρ:Type} {P:Program} {h h2:List Blk} {t t2:List AV}
def agX (h h2:List Blk) (v:AV):Prop:=∀id∈refs2 h v,lkB h2 id=lkB h id
theorem agX.one {v:AV} (hs:agX h h2 v):∀id∈refs1 v,lkB h2 id=lkB h id:=fun id hi=>hs id (by simp only[refs2,List.mem_append]; exact .inl hi)
theorem agX.refs {v:AV} (hs:agX h h2 v):refs2 h2 v=refs2 h v:=by
 simp only[refs2]
 have:∀(l:List Nat),(∀id∈l,lkB h2 id=lkB h id)→(l.flatMap fun id=>(aFw (lkB h2 id)).flatMap ļ)=l.flatMap fun id=>(aFw (lkB h id)).flatMap ļ:=by
  intro l
  induction l with
  |nil=>intro _; rfl
  |cons x l ih=>intro hl; simp only[List.flatMap_cons]; rw[hl x (by simp),ih fun id hi=>hl id (by simp[hi])]
 rw[this _ hs.one]
theorem ahM {v:AV} (hs:∀id∈ļ v,lkB h2 id=lkB h id):þ h2 v=þ h v:=by
 cases v<;>first
  |rfl
  |(simp only[þ]; rw[hs _ (by simp[ļ])])
theorem aBY {v:AV} (hs:∀id∈refs1 v,lkB h2 id=lkB h id):aTd h2 v=aTd h v:=by
 have one:(∀id∈ļ v,lkB h2 id=lkB h id)→þ h2 v=þ h v:=ahM
 cases v with
 | agg cs =>
   simp only[aTd,AV.agg.injEq]
   exact List.map_congr_left fun c hc=>ahM fun id hi=>hs id (List.mem_flatMap.2 ⟨c,hc,hi⟩)
 |fn f a b=>exact one fun _ hi=>by cases hi
 |_=>exact one hs
theorem aU4 {ty:TypeId} {a:AV} (hs:∀id∈refs1 a,lkB h2 id=lkB h id) (K:AV→Option ρ):aHW P h2 ty a K=aHW P h ty a K:=by
 cases a<;>first
  |rfl
  |(simp only[aHW]; rw[hs _ (by simp[refs1,ļ])])
theorem aQ3 {o:Nat} {a:AV} (hs:∀id∈refs1 a,lkB h2 id=lkB h id) (K:AV→Option ρ):aqz h2 a o K=aqz h a o K:=by
 cases a<;>first
  |rfl
  |(simp only[aqz]; rw[hs _ (by simp[refs1,ļ])])
theorem aSe {sz:Nat} {a i:AV} (hs:∀id∈refs1 a,lkB h2 id=lkB h id) (K:AV→Option ρ):av6 sz h2 a i K=av6 sz h a i K:=by
 cases i<;>try rfl
 cases a<;>first
  |rfl
  |(simp only[av6]; rw[hs _ (by simp[refs1,ļ])])
theorem aXh {d:Option TypeDesc} {a:AV} (hs:∀id∈refs1 a,lkB h2 id=lkB h id) (K:AV→Option ρ):aZx d h2 a K=aZx d h a K:=by
 unfold aZx
 split<;>cases a<;>first
  |rfl
  |(simp only[]; rw[hs _ (by simp[refs1,ļ])])
theorem aPM {ty:TypeId} {m i:AV} {ok:Bool} (hs:∀id∈refs1 m,lkB h2 id=lkB h id) (K:AV→Option ρ):ag7 P h2 ty m i ok K=ag7 P h ty m i ok K:=by
 unfold ag7
 have:þ h2 m=þ h m:=ahM fun id hi=>hs id (by cases m<;>first|exact hi|simp[ļ] at hi)
 rw[this]
theorem ayX {σ:Type} {sz:Nat} {a:AV} {lo hi:Option AV} (K:AV→List Blk→Option σ):aiO sz h a lo hi false K=(aiO sz h a lo hi false fun v _=>some v).bind fun v=>K v h:=by
 unfold aiO
 dsimp only
 (repeat' split)<;>rfl
theorem aQ0 {sz:Nat} {a:AV} {lo hi:Option AV} (hs:∀id∈refs1 a,lkB h2 id=lkB h id):∃φ:Option AV,(∀{σ:Type} (K:AV→List Blk→Option σ),aiO sz h a lo hi false K=φ.bind fun v=>K v h)∧∀{σ:Type} (K:AV→List Blk→Option σ),aiO sz h2 a lo hi false K=φ.bind fun v=>K v h2:=by
 refine⟨aiO sz h a lo hi false fun v _=>some v,fun K=>?_,fun K=>?_⟩
 ·exact ayX K
 ·rw[ayX K]
  congr 1
  cases a<;>first
   |rfl
   |(simp only[aiO]; rw[hs _ (by simp[refs1,ļ])])
def ap (nid:Nat) (ef:Option Blk) (h:List Blk):List Blk:=match ef with|none=>h|some B=>ņ h nid B
theorem pbind {α σ σ2:Type} {R:Option σ→Option σ2→Prop} (h0:R none none) {x:Option α} {K:α→Option σ} {K2:α→Option σ2} (h:∀a,R (K a) (K2 a)):R (x.bind K) (x.bind K2):=by
 cases x with
 |none=>exact h0
 |some a=>exact h a
theorem pb2 {α σ σ2:Type} {R:Option σ→Option σ2→Prop} (h0:R none none) {x:Option α} {K:α→Option σ} {K2:α→Option σ2} {z:Option σ} {z2:Option σ2} (h1:z=x.bind K) (h2:z2=x.bind K2) (h:∀a,R (K a) (K2 a)):R z z2:=by
 subst h1 h2; exact pbind h0 h
theorem aIJ {l:List Operand} (hx:∀x∈l,ev t2 x=ev t x):l.map (ev t2)=l.map (ev t):=List.map_congr_left hx
theorem aWW {l:List (Nat×Operand)} (hx:∀x∈l.map (·.2),ev t2 x=ev t x):(l.map fun p=>(p.1,ev t2 p.2))=l.map fun p=>(p.1,ev t p.2):=List.map_congr_left fun p hp=>by rw[hx p.2 (List.mem_map.2 ⟨p,hp,rfl⟩)]
theorem aXp {v:AV} (hv:alq v=false):frz h v=h:=by
 have one:∀c,aM6 c=false→ani h c=h:=fun c hc=>by cases c<;>first|rfl|cases hc
 have this1:=one v
 cases v with
 | agg cs =>
   simp only[alq,List.any_eq_false] at hv
   simp only[frz]
   clear this1
   induction cs with
   |nil=>rfl
   |cons c cs ih=>simp only[apR]; rw[one c (by simpa using hv c (by simp))]; exact ih fun x hx=>hv x (by simp[hx])
 |_=>exact this1 hv
theorem aJi:∀{ps:List (Nat×AV)},(∀p∈ps,alq p.2=false)→frzA h ps=h
 |[],_=>rfl
 | p :: ps, hp => by
   obtain⟨i,v⟩:=p
   simp only[frzA]
   rw[aXp (hp (i,v) (by simp))]
   exact aJi fun q hq=>hp q (by simp[hq])
theorem aIg {ty:Ty}:∀{ps:List (Nat×AV)} {n:Nat},(∀p∈ps,∀id∈refs1 p.2,lkB h2 id=lkB h id)→aF4 h2 ty n ps=aF4 h ty n ps
 |[],_,_=>rfl
 | (i, v) :: ps, n, hp => by
   simp only[aF4]
   rw[aBY (hp (i,v) (by simp)),aIg fun q hq=>hp q (by simp[hq])]
theorem op_par {σ σ2:Type} {R:Option σ→Option σ2→Prop} {E:Env ρ} {o:Op} {nid:Nat} {K:AV→St→Option σ} {K2:AV→St→Option σ2} (h0:R none none) (hcl:cls E o≤1) (hcall:aPT o=false)
 (hx:∀x∈o.operands.toList,ev t2 x=ev t x) (hs:cls E o=1→∀x∈o.operands.toList,∀id∈refs1 (ev t x),lkB h2 id=lkB h id)
 (hb:∀ty n ps,o=.buildSlice ty n ps→ps.toList.all (fun p=>!alq (ev t p.2))=true)
 (hK:∀v ef,(ef.isSome=true→ċ E.clone o=true)→R (K v {t:=t,h:=ap nid ef h}) (K2 v {t:=t2,h:=ap nid ef h2})) :
 R (opK P {t:=t,h:=h} nid false o K) (opK P {t:=t2,h:=h2} nid false o K2):=by
 have hn:∀v,R (K v {t:=t,h:=h}) (K2 v {t:=t2,h:=h2}):=fun v=>hK v none (by simp)
 have ha:ċ E.clone o=true→∀v B,R (K v {t:=t,h:=ņ h nid B}) (K2 v {t:=t2,h:=ņ h2 nid B}):=fun al v B=>hK v (some B) fun _=>al
 cases o with
 | move x =>
   have e:=hx x (by simp[Op.operands])
   simp only[opK,e]; exact hn _
 | assign x =>
   have e:=hx x (by simp[Op.operands])
   simp only[opK,e]; exact hn _
 | pick c a b =>
   have e1:=hx c (by simp[Op.operands])
   have e2:=hx a (by simp[Op.operands])
   have e3:=hx b (by simp[Op.operands])
   simp only[opK,e1,e2,e3]
   (repeat' split)<;>first|exact h0|exact hn _
 | box _ x =>
   have e:=hx x (by simp[Op.operands])
   simp only[opK,e]
   (repeat' split)<;>first|exact h0|exact ha rfl _ _
 | alloc e =>
   simp only[opK]
   (repeat' split)<;>first|exact h0|exact ha rfl _ _
 | build ty ps =>
   have e:=aWW (l:=ps.toList) (t:=t) (t2:=t2) fun x hm=>hx x (by simpa[Op.operands] using hm)
   simp only[opK,e]
   (repeat' split)<;>first|exact h0|exact hn _
 | buildSlice ty n ps =>
   have e:=aWW (l:=ps.toList) (t:=t) (t2:=t2) fun x hm=>hx x (by simpa[Op.operands] using hm)
   have hown:=hb ty n ps rfl
   have hf:∀h:List Blk,frzA h (ps.toList.map fun p=>(p.1,ev t p.2))=h:=fun h=>aJi fun p hp=>by
    obtain⟨q,hq,rfl⟩:=List.mem_map.1 hp
    simpa using List.all_eq_true.1 hown q hq
   have hr:∀ty n,aF4 h2 ty n (ps.toList.map fun p=>(p.1,ev t p.2))=aF4 h ty n (ps.toList.map fun p=>(p.1,ev t p.2)):=fun ty n=>aIg fun p hp=>by
    obtain⟨q,hq,rfl⟩:=List.mem_map.1 hp
    exact hs rfl q.2 (by simpa[Op.operands] using⟨q.1,by simpa using hq⟩)
   simp only[opK,e,hf,hr]
   (repeat' split)<;>first|exact h0|exact ha rfl _ _
 | load ty a =>
   have e:=hx a (by simp[Op.operands])
   have hsa:=hs rfl a (by simp[Op.operands])
   simp only[opK,e]
   rw[aU4 hsa]
   exact pb2 h0 (ak5 ..) (ak5 ..) fun v=>hn v
 | nilCheck x =>
   have e:=hx x (by simp[Op.operands])
   have hsa:=hs rfl x (by simp[Op.operands])
   simp only[opK,e]
   cases hv:ev t x with
   | optr id g i off =>
     have:=hsa id (by rw[hv]; simp[refs1,ļ])
     simp only[this]
     (repeat' split)<;>first|exact h0|exact hn _
   |_=>first|exact h0|exact hn _
 | binOp op ty x y yt =>
   have e1:=hx x (by simp[Op.operands])
   have e2:=hx y (by simp[Op.operands])
   simp only[opK,e1,e2]
   exact pb2 h0 (aqi ..) (aqi ..) fun v=>hn v
 | unOp op ty x =>
   have e:=hx x (by simp[Op.operands])
   simp only[opK,e]
   (repeat' split)<;>first|exact h0|exact hn _|exact pb2 h0 (atj ..) (atj ..) fun v=>hn v
 | convert src dst x =>
   have e:=hx x (by simp[Op.operands])
   simp only[opK,e]
   (repeat' split)<;>first|exact h0|exact hn _
 | makeFunc fn first captured =>
   have e1:=aIJ (l:=first.toList) (t:=t) (t2:=t2) fun x hm=>hx x (by simp[Op.operands]; exact .inl (by simpa using hm))
   have e2:=aIJ (l:=captured.toList) (t:=t) (t2:=t2) fun x hm=>hx x (by simp[Op.operands]; exact .inr (by simpa using hm))
   simp only[opK,e1,e2]
   (repeat' split)<;>first|exact h0|exact hn _
 | makeMap ty r =>
   simp only[opK]
   (repeat' split)<;>first|exact h0|exact ha rfl _ _
 | makeSlice ty l c =>
   have e:=hx l (by simp[Op.operands])
   simp only[opK,e]
   (repeat' split)<;>first|exact h0|exact ha rfl _ _
 | slice ty x lo hi mx =>
   have e:=hx x (by simp[Op.operands])
   have hsa:=hs rfl x (by simp[Op.operands])
   have e1:lo.map (ev t2)=lo.map (ev t):=by
    cases lo with
    |none=>rfl
    |some l=>simp[hx l (by simp[Op.operands])]
   have e2:hi.map (ev t2)=hi.map (ev t):=by
    cases hi with
    |none=>rfl
    |some l=>simp[hx l (by simp[Op.operands])]
   simp only[opK,e,e1,e2]
   (repeat' split)<;>first
    |exact h0
    | (obtain ⟨φ, q1, q2⟩ := aQ0 hsa
       rw[q1,q2]
       exact pbind h0 fun v=>hn v)
 | fieldAddr ty x f =>
   have e:=hx x (by simp[Op.operands])
   have hsa:=hs rfl x (by simp[Op.operands])
   simp only[opK,e]
   (repeat' split)<;>first
    |exact h0
    |(rw[aQ3 hsa]; exact pb2 h0 (ahN ..) (ahN ..) fun v=>hn v)
 | field ty x f =>
   have e:=hx x (by simp[Op.operands])
   simp only[opK,e]
   (repeat' split)<;>first|exact h0|exact hn _
 | indexAddr ty x i =>
   have e1:=hx x (by simp[Op.operands])
   have e2:=hx i (by simp[Op.operands])
   have hsa:=hs rfl x (by simp[Op.operands])
   simp only[opK,e1,e2]
   (repeat' split)<;>first
    |exact h0
    |exact hn _
    |exact pb2 h0 (adz ..) (adz ..) fun v=>hn _
    |(rw[aSe hsa]; exact pb2 h0 (ahT ..) (ahT ..) fun v=>hn v)
 | index ty x i =>
   have e1:=hx x (by simp[Op.operands])
   have e2:=hx i (by simp[Op.operands])
   simp only[opK,e1,e2]
   (repeat' split)<;>first|exact h0|exact hn _|exact pb2 h0 (adz ..) (adz ..) fun v=>by(repeat' split)<;>first|exact h0|exact hn _
 | lookup ty m i ok =>
   have e1:=hx m (by simp[Op.operands])
   have e2:=hx i (by simp[Op.operands])
   have hsa:=hs rfl m (by simp[Op.operands])
   simp only[opK,e1,e2]
   rw[aPM hsa]
   exact pb2 h0 (aga ..) (aga ..) fun v=>hn v
 | extract x i =>
   have e:=hx x (by simp[Op.operands])
   simp only[opK,e]
   (repeat' split)<;>first|exact h0|exact hn _
 | call c =>
   obtain⟨callee,args,tys⟩:=c
   cases callee with
   | builtin b =>
     have e:=aIJ (l:=args.toList) (t:=t) (t2:=t2) fun x hm=>hx x (by simpa[Op.operands,Call.operands] using hm)
     have hsa:cls E (.call ⟨.builtin b,args,tys⟩)=1→∀x∈args.toList,∀id∈refs1 (ev t x),lkB h2 id=lkB h id:=fun h1 x hm=>hs h1 x (by simpa[Op.operands,Call.operands] using hm)
     generalize hl:args.toList=l at e hsa
     generalize hm:tys.toList=m
     cases b with
     |append=>simp[cls] at hcl
     |clear=>simp[cls] at hcl
     | len =>
       rcases l with _|⟨x,_|⟨y,l⟩⟩<;>rcases m with _|⟨ty,m⟩<;>simp only[opK,hl,hm]<;>try exact h0
       have e1:ev t2 x=ev t x:=by simpa using e
       rw[e1,aXh (hsa rfl x (by simp))]
       exact pb2 h0 (apP ..) (apP ..) fun v=>hn v
     | cap =>
       rcases l with _|⟨x,_|⟨y,l⟩⟩<;>rcases m with _|⟨ty,m⟩<;>simp only[opK,hl,hm]<;>try exact h0
       have e1:ev t2 x=ev t x:=by simpa using e
       rw[e1]
       (repeat' split)<;>first|exact h0|exact hn _
     | min =>
       rcases l with _|⟨x,l⟩<;>simp only[opK,hl,hm]<;>try exact h0
       simp only[List.map_cons,List.cons.injEq] at e
       rw[e.1,e.2]
       exact pb2 h0 (ado _ _ _ _) (ado _ _ _ _) fun v=>hn v
     | max =>
       rcases l with _|⟨x,l⟩<;>simp only[opK,hl,hm]<;>try exact h0
       simp only[List.map_cons,List.cons.injEq] at e
       rw[e.1,e.2]
       exact pb2 h0 (ado _ _ _ _) (ado _ _ _ _) fun v=>hn v
     |_=>simp only[opK]; (repeat' split)<;>first|exact h0|contradiction
   |value f=>cases hcall
   |invoke r m=>exact h0
 |store=>simp[cls] at hcl
 |mapUpdate=>simp[cls] at hcl
 |_=>exact h0
def aps (ups:List (Nat×Blk)) (h:List Blk):List Blk:=ups.foldl (fun h p=>ņ h p.1 p.2) h
theorem aYv {id:Nat} {B:Blk}:aps [(id,B)] h=ņ h id B:=rfl
theorem aqj {u v:List (Nat×Blk)}:aps (u++v) h=aps v (aps u h):=by simp[aps]
theorem ayl:∀(ups:List (Nat×Blk)) (h:List Blk),(aps ups h).length=h.length
 |[],_=>rfl
 |p::ups,h=>by show(aps ups (ņ h p.1 p.2)).length=_; rw[ayl ups,ë]
theorem aJD {id:Nat}:∀{ups:List (Nat×Blk)} {h:List Blk},(∀p∈ups,p.1≠id)→lkB (aps ups h) id=lkB h id
 |[],_,_=>rfl
 | p :: ups, h, hn => by
   show lkB (aps ups (ņ h p.1 p.2)) id=_
   rw[aJD fun q hq=>hn q (by simp[hq]),đ _ (Ne.symm (hn p (by simp)))]
theorem awF {id:Nat}:∀{ups:List (Nat×Blk)} {h h2:List Blk},h2.length=h.length→lkB h2 id=lkB h id→lkB (aps ups h2) id=lkB (aps ups h) id
 |[],_,_,_,he=>he
 |p::ups,h,h2,hl,he=>awF (ups:=ups) (h:=ņ h p.1 p.2) (h2:=ņ h2 p.1 p.2) (by simp[ë,hl]) (by simp only[aBz,hl,he])
theorem aTR {v:AV} (hs:∀id∈ļ v,lkB h2 id=lkB h id):∃ups,ani h v=aps ups h∧ani h2 v=aps ups h2∧∀p∈ups,p.1∈ļ v:=by
 have no:ani h v=h→ani h2 v=h2→∃ups,ani h v=aps ups h∧ani h2 v=aps ups h2∧∀p∈ups,p.1∈ļ v:=fun h1 h2'=>⟨[],h1,h2',by simp⟩
 cases v with
 | own id g =>
   have e:=hs id (by simp[ļ])
   cases hl:lkB h id with
   | row t g fz xs =>
     rw[hl] at e
     exact⟨[(id,.row t g true xs)],by simp only[ani,hl]; rfl,by simp only[ani,e]; rfl,by simp[ļ]⟩
   |_=>rw[hl] at e; exact no (by simp only[ani,hl]) (by simp only[ani,e])
 | sub id g lo n =>
   have e:=hs id (by simp[ļ])
   cases hl:lkB h id with
   | row t g fz xs =>
     rw[hl] at e
     exact⟨[(id,.row t g true xs)],by simp only[ani,hl]; rfl,by simp only[ani,e]; rfl,by simp[ļ]⟩
   |_=>rw[hl] at e; exact no (by simp only[ani,hl]) (by simp only[ani,e])
 |_=>exact no rfl rfl
theorem aMy:∀{cs:List AV} {h h2:List Blk},h2.length=h.length→(∀c∈cs,∀id∈ļ c,lkB h2 id=lkB h id)→∃ups,apR h cs=aps ups h∧apR h2 cs=aps ups h2∧∀p∈ups,∃c∈cs,p.1∈ļ c
 |[],_,_,_,_=>⟨[],rfl,rfl,by simp⟩
 | c :: cs, h, h2, hl, hs => by
   obtain⟨u,h1,h2',h3⟩:=aTR (hs c (by simp))
   obtain⟨v,h4,h5,h6⟩:=aMy (cs:=cs) (h:=ani h c) (h2:=ani h2 c) (by rw[amr,amr,hl]) (fun d hd id hi=>by rw[h1,h2']; exact awF hl (hs d (by simp[hd]) id hi))
   refine⟨u++v,by simp only[apR]; rw[h4,h1,aqj],by simp only[apR]; rw[h5,h2',aqj],fun p hp=>?_⟩
   rcases List.mem_append.1 hp with hp|hp
   ·exact⟨c,by simp,h3 p hp⟩
   ·obtain⟨d,hd,hi⟩:=h6 p hp
    exact⟨d,by simp[hd],hi⟩
theorem aXr {v:AV} (hl:h2.length=h.length) (hs:∀id∈refs1 v,lkB h2 id=lkB h id):∃ups,frz h v=aps ups h∧frz h2 v=aps ups h2∧∀p∈ups,p.1∈refs1 v:=by
 have one:(∀id∈ļ v,lkB h2 id=lkB h id)→∃ups,ani h v=aps ups h∧ani h2 v=aps ups h2∧∀p∈ups,p.1∈ļ v:=aTR
 cases v with
 | agg cs =>
   obtain⟨u,h1,h2',h3⟩:=aMy (cs:=cs) hl fun c hc id hi=>hs id (List.mem_flatMap.2 ⟨c,hc,hi⟩)
   exact⟨u,h1,h2',fun p hp=>List.mem_flatMap.2 (h3 p hp)⟩
 | fn f a b =>
   obtain⟨u,h1,h2',h3⟩:=one fun _ hi=>by cases hi
   exact⟨u,h1,h2',fun p hp=>by cases h3 p hp⟩
 |_=>exact one hs
theorem ayW {ty:Ty} {x:AV} (hs:∀id∈refs1 x,lkB h2 id=lkB h id):ä (.slice ty) [þ h2 x]=ä (.slice ty) [þ h x]:=by
 have:þ h2 x=þ h x:=ahM fun id hi=>hs id (by cases x<;>first|exact hi|simp[ļ] at hi)
 rw[this]
theorem aVt {v:AV} {vs:List AV} (hc:ō v=some vs):∀c∈vs,∀id∈ļ c,id∈refs1 v:=by
 intro c hm id hi
 cases v<;>simp only[ō,Option.some.injEq,reduceCtorEq] at hc<;>subst hc
 all_goals first
  |(simp only[List.mem_singleton] at hm; subst hm; exact hi)
  |(simp only[List.mem_singleton] at hm; subst hm; cases hi; done)
  |exact List.mem_flatMap.2 ⟨c,hm,hi⟩
theorem aNt {σ σ2:Type} {R:Option σ→Option σ2→Prop} {ty:TypeId} {a v:AV} {K:List Blk→Option σ} {K2:List Blk→Option σ2} (h0:R none none) (hlen:h2.length=h.length)
 (s1:∀id∈refs1 a,lkB h2 id=lkB h id) (s2:∀id∈refs1 v,lkB h2 id=lkB h id) (hK:∀ups,(∀p∈ups,p.1∈refs1 a∨p.1∈refs1 v)→R (K (aps ups h)) (K2 (aps ups h2))):R (amP P h ty a v K) (amP P h2 ty a v K2):=by
 unfold amP
 split<;>try exact h0
 rename_i vs hvs
 split<;>try exact h0
 split<;>try exact h0
 ·rename_i id off
  have e3:=s1 id (by simp[refs1,ļ])
  rw[e3]
  (repeat' split)<;>first
   |exact h0
   |exact hK [(id,_)] fun p hp=>.inl (by simp only[List.mem_singleton] at hp; subst hp; simp[refs1,ļ])
 ·rename_i id g i off
  have e3:=s1 id (by simp[refs1,ļ])
  obtain⟨u,f1,f2,f3⟩:=aXr (v:=v) hlen s2
  have e4:lkB (frz h2 v) id=lkB (frz h v) id:=by rw[f1,f2]; exact awF hlen e3
  have e5:vs.map (þ h2)=vs.map (þ h):=List.map_congr_left fun c hc=>ahM fun id hi=>s2 id (aVt hvs c hc id hi)
  rw[e4,e5]
  (repeat' split)<;>first
   |exact h0
   | (rw [f1, f2]
      refine hK (u++[(id,_)]) (fun p hp=>?_) |> fun q=>(by simpa only[aqj,aYv] using q)
      rcases List.mem_append.1 hp with hp|hp
      ·exact .inr (f3 p hp)
      ·exact .inl (by simp only[List.mem_singleton] at hp; subst hp; simp[refs1,ļ]))
theorem a1g {σ σ2:Type} {R:Option σ→Option σ2→Prop} {E:Env ρ} {o:Op} {nid:Nat} {eat:Bool} {K:AV→St→Option σ} {K2:AV→St→Option σ2} (h0:R none none) (hcl:cls E o=2) (hcall:aPT o=false) (hlen:h2.length=h.length)
 (hx:∀x∈o.operands.toList,ev t2 x=ev t x) (hs:∀x∈o.operands.toList,∀id∈refs1 (ev t x),lkB h2 id=lkB h id)
 (hK:∀v ups,(∀p∈ups,(p.1=nid∧ċ E.clone o=true)∨∃x∈o.operands.toList,p.1∈refs1 (ev t x))→R (K v {t:=t,h:=aps ups h}) (K2 v {t:=t2,h:=aps ups h2})) :
 R (opK P {t:=t,h:=h} nid eat o K) (opK P {t:=t2,h:=h2} nid eat o K2):=by
 cases o with
 | store ty a v =>
   have e1:=hx a (by simp[Op.operands])
   have e2:=hx v (by simp[Op.operands])
   have s1:=hs a (by simp[Op.operands])
   have s2:=hs v (by simp[Op.operands])
   have ma:∀{id:Nat},id∈refs1 (ev t a)→∃x∈(Op.store ty a v).operands.toList,id∈refs1 (ev t x):=fun hi=>⟨a,by simp[Op.operands],hi⟩
   have mv:∀{id:Nat},id∈refs1 (ev t v)→∃x∈(Op.store ty a v).operands.toList,id∈refs1 (ev t x):=fun hi=>⟨v,by simp[Op.operands],hi⟩
   simp only[opK,e1,e2]
   cases eat with
   | false =>
     simp only
     exact aNt h0 hlen s1 s2 fun ups hu=>hK _ ups fun p hp=>.inr ((hu p hp).elim ma mv)
   | true =>
     simp only
     cases hv:ev t v with
     | sub id g lo n =>
       rw[hv] at s2 mv
       have e3:=s2 id (by simp[refs1,ļ])
       simp only[e3]
       split<;>try exact h0
       split<;>try exact h0
       refine aNt h0 (by simp[ë,hlen]) (fun j hj=>?_) (fun j hj=>?_) fun ups hu=>hK _ ((id,_)::ups) fun p hp=>.inr ?_
       ·exact awF (ups:=[(id,_)]) hlen (s1 j hj)
       ·simp only[refs1,ļ,List.mem_singleton] at hj
        subst hj
        exact awF (ups:=[(_,_)]) hlen e3
       ·rcases List.mem_cons.1 hp with rfl|hp
        ·exact mv (by simp[refs1,ļ])
        ·rcases hu p hp with hu|hu
         ·exact ma hu
         ·exact mv (by simpa[refs1,ļ] using hu)
     |_=>exact h0
 | mapUpdate ty m i x =>
   have e1:=hx m (by simp[Op.operands])
   have e2:=hx i (by simp[Op.operands])
   have e3:=hx x (by simp[Op.operands])
   have s1:=hs m (by simp[Op.operands])
   have s3:=hs x (by simp[Op.operands])
   obtain⟨u,f1,f2,f3⟩:=aXr (v:=ev t x) hlen s3
   simp only[opK,e1,e2,e3]
   unfold ae3
   rw[aBY s3]
   split<;>try exact h0
   split<;>try exact h0
   rename_i id hm
   rw[hm] at s1
   rw[s1 id (by simp[refs1,ļ])]
   (repeat' split)<;>first
    |exact h0
    | (rw [f1, f2]
       refine hK _ (u++[(id,_)]) (fun p hp=>?_) |> fun q=>(by simpa only[aqj,aYv] using q)
       rcases List.mem_append.1 hp with hp|hp
       ·exact .inr ⟨x,by simp[Op.operands],f3 p hp⟩
       ·exact .inr ⟨m,by simp[Op.operands],by simp only[List.mem_singleton] at hp; subst hp; rw[hm]; simp[refs1,ļ]⟩)
 | call c =>
   obtain⟨callee,args,tys⟩:=c
   cases callee with
   | builtin b =>
     have e:=aIJ (l:=args.toList) (t:=t) (t2:=t2) fun x hm=>hx x (by simpa[Op.operands,Call.operands] using hm)
     have hsa:∀x∈args.toList,∀id∈refs1 (ev t x),lkB h2 id=lkB h id:=fun x hm=>hs x (by simpa[Op.operands,Call.operands] using hm)
     have hmem:∀x∈args.toList,x∈(Op.call ⟨.builtin b,args,tys⟩).operands.toList:=fun x hm=>by simpa[Op.operands,Call.operands] using hm
     generalize hl:args.toList=l at e hsa hmem
     generalize hm:tys.toList=m
     cases b with
     | append =>
       rcases l with _|⟨x,_|⟨y,_|⟨z,l⟩⟩⟩<;>rcases m with _|⟨ty,_|⟨ty',_|⟨ty'',m⟩⟩⟩<;>simp only[opK,hl,hm]<;>try exact h0
       simp only[List.map_cons,List.cons.injEq,List.map_nil,and_true] at e
       rw[e.1,e.2]
       have sx:=hsa x (by simp)
       have sy:=hsa y (by simp)
       have hnew:∀v B,R (K v {t:=t,h:=ņ h nid B}) (K2 v {t:=t2,h:=ņ h2 nid B}):=fun v B=>hK v [(nid,B)] fun p hp=>.inl ⟨by simp only[List.mem_singleton] at hp; subst hp; rfl,rfl⟩
       (repeat' split)<;>first
        |exact h0
        | (unfold apo
           simp only[ayW sy]
           split<;>try exact h0
           split<;>try exact h0
           split<;>try exact h0
           split<;>try exact h0
           split<;>try exact h0
           ·split<;>first|exact h0|exact hnew _ _
           ·rename_i id g hv
            rw[hv] at sx
            rw[sx id (by simp[refs1,ļ])]
            (repeat' split)<;>first
             |exact h0
             |exact hK _ [(id,_)] fun p hp=>.inr ⟨x,hmem x (by simp),by simp only[List.mem_singleton] at hp; subst hp; rw[hv]; simp[refs1,ļ]⟩)
        | (unfold ayU
           (repeat' split)<;>first|exact h0|exact hnew _ _)
     | clear =>
       rcases l with _|⟨x,_|⟨y,l⟩⟩<;>rcases m with _|⟨ty,_|⟨ty',m⟩⟩<;>simp only[opK,hl,hm]<;>try exact h0
       simp only[List.map_cons,List.cons.injEq,List.map_nil,and_true] at e
       rw[e]
       have sx:=hsa x (by simp)
       split<;>try exact h0
       unfold az9
       split<;>try exact h0
       ·exact hK _ [] (by simp)
       ·rename_i id g lo n _ hv _
        rw[hv] at sx
        rw[sx id (by simp[refs1,ļ])]
        (repeat' split)<;>first
         |exact h0
         |exact hK _ [(id,_)] fun p hp=>.inr ⟨x,hmem x (by simp),by simp only[List.mem_singleton] at hp; subst hp; rw[hv]; simp[refs1,ļ]⟩
     |_=>simp[cls] at hcl
   |value f=>cases hcall
   |invoke r m=>simp[cls] at hcl
 |_=>simp[cls] at hcl
end
end Go.Am
end
noncomputable section
namespace Go.Am
variable [ò]
section
variable {ρ:Type} {P:Program} {h h2:List Blk} {t t2:List AV}
theorem aQD {ty:Ty} {a:AV} (hs:agX h h2 a):a0l h2 ty a=a0l h ty a:=by
 have hsn:aTd h2 a=aTd h a:=aBY hs.one
 cases ty with
 | ptr u =>
   cases a with
   | box id off =>
     cases off with
     | zero =>
       have h1:lkB h2 id=lkB h id:=hs.one id (by simp[refs1,ļ])
       simp only[a0l,h1]
       cases hl:lkB h id with
       | cells cs =>
         simp only
         have:cs.map (þ h2)=cs.map (þ h):=List.map_congr_left fun c hc=>ahM fun i hi=>hs i (by
          simp only[refs2,List.mem_append,List.mem_flatMap]
          exact .inr ⟨id,by simp[refs1,ļ],by rw[hl]; exact⟨c,hc,hi⟩⟩)
         rw[this]
       |_=>rfl
     |succ n=>rfl
   |eptr t' x off=>cases off<;>rfl
   |_=>rfl
 |_=>simp only[a0l,hsn]
theorem aJB:∀{l:List Ty} {ty:Ty} {as:List AV},(∀a∈as,agX h h2 a)→aM1 h2 l ty as=aM1 h l ty as
 |[],ty,[],_=>rfl
 |[],ty,[a],hs=>by simp only[aM1]; exact aQD (hs a (by simp))
 |[],ty,_::_::_,_=>rfl
 |u::l,ty,[],_=>rfl
 | u :: l, ty, a :: as, hs => by
   simp only[aM1]
   rw[aQD (hs a (by simp)),aJB fun b hb=>hs b (by simp[hb])]
theorem aJC {l:List Ty} {as:List AV} (hs:∀a∈as,agX h h2 a):awE h2 l as=awE h l as:=by
 cases l with
 |nil=>rfl
 |cons ty l=>exact aJB hs
theorem aSq {E:Env ρ} {o:Op} (hx:∀x∈o.operands.toList,ev t2 x=ev t x):aFl E t2 o=aFl E t o:=by
 unfold aFl
 split
 ·rename_i ty n ps
  rw[Bool.eq_iff_iff]
  simp only[List.all_eq_true]
  refine forall_congr' fun p=>forall_congr' fun hm=>?_
  rw[hx p.2 (by simpa[Op.operands] using⟨p.1,by simpa using hm⟩)]
 ·rename_i s args tys
  rw[hx (.tmp s) (by simp[Op.operands,Call.operands])]
 ·rfl
theorem aSp {E:Env ρ} {o:Op} (hx:∀x∈o.operands.toList,ev t2 x=ev t x) (hs:1≤cls E o→∀x∈o.operands.toList,agX h h2 (ev t x)) :
 aiG E {t:=t2,h:=h2} o=aiG E {t:=t,h:=h} o:=by
 unfold aiG
 split
 ·rename_i hc
  have hc1:1≤cls E o:=Nat.le_of_ble_eq_true hc
  have h1:(o.operands.toList.all fun x=>(refs2 h2 (ev t2 x)).all fun id=>!aXl (lkB h2 id))=o.operands.toList.all fun x=>(refs2 h (ev t x)).all fun id=>!aXl (lkB h id):=by
   rw[Bool.eq_iff_iff]
   simp only[List.all_eq_true]
   refine forall_congr' fun x=>forall_congr' fun hm=>?_
   rw[hx x hm,(hs hc1 x hm).refs]
   exact forall_congr' fun id=>forall_congr' fun hi=>by rw[hs hc1 x hm id hi]
  exact congr (congrArg and h1) (aSq hx)
 ·rfl
theorem ahB {E:Env ρ} {o:Op} (hc:1≤cls E o) {id:Nat}:id∈atl E {t:=t,h:=h} o↔∃x∈o.operands.toList,id∈refs2 h (ev t x):=by
 unfold atl
 have:Nat.ble 1 (cls E o)=true:=Nat.ble_eq_true_of_le hc
 simp only[this,List.mem_flatMap]
theorem aXt {E:Env ρ} {o:Op} (hc:cls E o=0) {S:St}:atl E S o=[]:=by
 unfold atl; rw[hc]
def Loc (E:Env ρ) (o:Op) (nid:Nat) (t:List AV) (h:List Blk) (t2:List AV) (h2:List Blk) (z z2:(AV→St→Option ρ)→Option ρ):Prop :=
 ∃φ:Option (AV×List (Nat×Blk)),(∀r,φ=some r→∀p∈r.2,(p.1=nid∧ċ E.clone o=true)∨(cls E o=2∧p.1∈atl E {t:=t,h:=h} o)) ∧
  (∀K,z K=φ.bind fun r=>K r.1 {t:=t,h:=aps r.2 h})∧∀K,z2 K=φ.bind fun r=>K r.1 {t:=t2,h:=aps r.2 h2}
theorem Loc.no {E:Env ρ} {o:Op} {nid:Nat} {z z2:(AV→St→Option ρ)→Option ρ} (h1:∀K,z K=none) (h2':∀K,z2 K=none):Loc E o nid t h t2 h2 z z2 :=
 ⟨none,by simp,fun K=>by rw[h1]; rfl,fun K=>by rw[h2']; rfl⟩
theorem aXQ {σ σ2:Type} {R:Option σ→Option σ2→Prop} {g nid:Nat} {fz:Bool} {x:AV} {K:AV→St→Option σ} {K2:AV→St→Option σ2} (h0:R none none) (hs:∀id∈refs1 x,lkB h2 id=lkB h id)
 (hK:∀v ef,R (K v {t:=t,h:=ap nid ef h}) (K2 v {t:=t2,h:=ap nid ef h2})):R (aph P g fz {t:=t,h:=h} nid x K) (aph P g fz {t:=t2,h:=h2} nid x K2):=by
 simp only[aph,ayW hs]
 (repeat' split)<;>first|exact h0|exact hK _ none|exact hK _ (some _)
def efU (nid:Nat):Option Blk→List (Nat×Blk)
 |none=>[]
 |some B=>[(nid,B)]
theorem aUj {nid:Nat} {ef:Option Blk}:ap nid ef h=aps (efU nid ef) h:=by cases ef<;>rfl
theorem a03 {E:Env ρ} {call:List Nat→Bool→Nat→List AV→List Blk→(AV→List Blk→Option ρ)→Option ρ} {fid:Nat} {path:List Nat} {nid:Nat} {o:Oper}
 (hpe:aYN E call) (hcl:cls E o.op≤2) (hlen:h2.length=h.length) (hx:∀x∈o.op.operands.toList,ev t2 x=ev t x) (hs:1≤cls E o.op→∀x∈o.op.operands.toList,agX h h2 (ev t x)) :
 Loc E o.op nid t h t2 h2 (aeo E call fid path true {t:=t,h:=h} nid o) (aeo E call fid path true {t:=t2,h:=h2} nid o):=by
 have hwf:=aSp hx hs
 cases hw:aiG E {t:=t,h:=h} o.op with
 |false=>exact .no (fun K=>by simp[aeo,hw]) (fun K=>by simp[aeo,hwf,hw])
 | true =>
   rw[hw] at hwf
   have plain:(∀f args tys,o.op≠.call ⟨.value f,args,tys⟩)→Loc E o.op nid t h t2 h2 (aeo E call fid path true {t:=t,h:=h} nid o) (aeo E call fid path true {t:=t2,h:=h2} nid o):=by
    intro hno
    have hr:∀S:St,aiG E S o.op=true→∀K,aeo E call fid path true S nid o K=opK E.P S nid (aSo E true fid o) o.op K:=fun S hS K=>by
     unfold aeo
     simp only[hS,Bool.not_true,Bool.and_false,Bool.false_and]
    have hcall:aPT o.op=false:=by
     cases ho:o.op<;>try rfl
     rename_i c
     obtain⟨f,args,tys⟩:=c
     cases f<;>first|rfl|exact absurd ho (hno _ _ _)
    have fin:(∃φ:Option (AV×List (Nat×Blk)),(∀r,φ=some r→∀p∈r.2,(p.1=nid∧ċ E.clone o.op=true)∨(cls E o.op=2∧p.1∈atl E {t:=t,h:=h} o.op)) ∧
     opK E.P {t:=t,h:=h} nid (aSo E true fid o) o.op (fun v S=>some (v,S))=φ.map (fun r=>(r.1,({t:=t,h:=aps r.2 h}:St)))∧opK E.P {t:=t2,h:=h2} nid (aSo E true fid o) o.op (fun v S=>some (v,S))=φ.map fun r=>(r.1,({t:=t2,h:=aps r.2 h2}:St))) →
     Loc E o.op nid t h t2 h2 (aeo E call fid path true {t:=t,h:=h} nid o) (aeo E call fid path true {t:=t2,h:=h2} nid o):=by
     rintro⟨φ,h1,h2',h3⟩
     refine⟨φ,h1,fun K=>?_,fun K=>?_⟩
     ·rw[hr _ hw,aRj]; unfold opR; rw[h2']; cases φ<;>rfl
     ·rw[hr _ hwf,aRj]; unfold opR; rw[h3]; cases φ<;>rfl
    apply fin
    by_cases h2c:cls E o.op=2
    ·refine a1g (P:=E.P) (E:=E) (o:=o.op) (nid:=nid) (σ:=AV×St) (σ2:=AV×St) (K:=fun v S=>some (v,S)) (K2:=fun v S=>some (v,S))
      (R:=fun x y=>∃φ:Option (AV×List (Nat×Blk)),(∀r,φ=some r→∀p∈r.2,(p.1=nid∧ċ E.clone o.op=true)∨(cls E o.op=2∧p.1∈atl E {t:=t,h:=h} o.op))∧x=φ.map (fun r=>(r.1,({t:=t,h:=aps r.2 h}:St)))∧y=φ.map fun r=>(r.1,({t:=t2,h:=aps r.2 h2}:St)))
      ⟨none,by simp,rfl,rfl⟩ h2c hcall hlen hx (fun x hm=>(hs (by omega) x hm).one) fun v ups hu=>⟨some (v,ups),fun r hr' p hp=>?_,rfl,rfl⟩
     cases hr'
     rcases hu p hp with hu|⟨x,hm,hi⟩
     ·exact .inl hu
     ·exact .inr ⟨h2c,(ahB (by omega)).2 ⟨x,hm,by simp only[refs2,List.mem_append]; exact .inl hi⟩⟩
    ·have hea:aSo E true fid o=false:=by
      unfold aSo
      cases ho:o.op<;>first|rfl|(exfalso; apply h2c; rw[ho]; rfl)
     rw[hea]
     have hb:∀ty n ps,o.op=.buildSlice ty n ps→ps.toList.all (fun p=>!alq (ev t p.2))=true:=fun ty n ps ho=>by
      have h1:=hw
      unfold aiG at h1
      rw[ho] at h1
      have hb1:Nat.ble 1 (cls E (.buildSlice ty n ps))=true:=rfl
      simp only[hb1,Bool.and_eq_true,aFl] at h1
      exact h1.2
     refine op_par (P:=E.P) (E:=E) (o:=o.op) (nid:=nid) (σ:=AV×St) (σ2:=AV×St) (K:=fun v S=>some (v,S)) (K2:=fun v S=>some (v,S))
      (R:=fun x y=>∃φ:Option (AV×List (Nat×Blk)),(∀r,φ=some r→∀p∈r.2,(p.1=nid∧ċ E.clone o.op=true)∨(cls E o.op=2∧p.1∈atl E {t:=t,h:=h} o.op))∧x=φ.map (fun r=>(r.1,({t:=t,h:=aps r.2 h}:St)))∧y=φ.map fun r=>(r.1,({t:=t2,h:=aps r.2 h2}:St)))
      ⟨none,by simp,rfl,rfl⟩ (by omega) hcall hx (fun h1 x hm=>(hs (by omega) x hm).one) hb fun v ef hef=>⟨some (v,efU nid ef),fun r hr' p hp=>?_,by rw[aUj]; rfl,by rw[aUj]; rfl⟩
     cases hr'
     cases ef with
     |none=>cases hp
     | some B =>
       simp only[efU,List.mem_singleton] at hp
       subst hp
       exact .inl ⟨rfl,hef rfl⟩
   cases ho:o.op with
   | call c =>
     obtain⟨f,args,tys⟩:=c
     cases f with
     | value f =>
       cases f with
       | func g =>
         rw[ho] at hx hs hcl
         have hxa:∀x∈args.toList,ev t2 x=ev t x:=fun x hm=>hx x (by simp[Op.operands,Call.operands]; exact .inr (by simpa using hm))
         have hmem:∀x∈args.toList,x∈(Op.call ⟨.value (.func g),args,tys⟩).operands.toList:=fun x hm=>by simp[Op.operands,Call.operands]; exact .inr (by simpa using hm)
         have he:=aIJ hxa
         cases hc:E.clone g with
         | true =>
           have hcls:cls E (.call ⟨.value (.func g),args,tys⟩)=1:=by simp[cls,hc]
           have hr:∀(S:St),aiG E S o.op=true→∀K,aeo E call fid path true S nid o K=match args.toList with
            |[x]=>aph E.P g (E.eat fid (o.dst.getD 0)) S nid (ev S.t x) K
            |_=>none:=fun S hS K=>by
            unfold aeo
            simp only[hS,Bool.not_true,Bool.and_false]
            rw[ho]
            simp only[ev,hc,aZA,Bool.and_self]
            rfl
           generalize hl:args.toList=l at hr he hxa hmem
           rcases l with _|⟨x,_|⟨y,l⟩⟩
           ·exact .no (fun K=>hr _ hw K) (fun K=>hr _ hwf K)
           ·have hsx:=(hs (by omega) x (hmem x (by simp))).one
            have e1:=hxa x (by simp)
            obtain⟨φ,h1,h2',h3⟩:=aXQ (P:=E.P) (g:=g) (fz:=E.eat fid (o.dst.getD 0)) (nid:=nid) (t:=t) (t2:=t2) (σ:=AV×St) (σ2:=AV×St) (K:=fun v S=>some (v,S)) (K2:=fun v S=>some (v,S))
             (R:=fun x y=>∃φ:Option (AV×List (Nat×Blk)),(∀r,φ=some r→∀p∈r.2,p.1=nid)∧x=φ.map (fun r=>(r.1,({t:=t,h:=aps r.2 h}:St)))∧y=φ.map fun r=>(r.1,{t:=t2,h:=aps r.2 h2}))
             ⟨none,by simp,rfl,rfl⟩ hsx fun v ef=>⟨some (v,efU nid ef),fun r hr' p hp=>by
              cases hr'
              cases ef with
              |none=>cases hp
              |some B=>simp only[efU,List.mem_singleton] at hp; rw[hp],by rw[aUj]; rfl,by rw[aUj]; rfl⟩
            refine⟨φ,fun r hr' p hp=>.inl ⟨h1 r hr' p hp,by simpa[ċ] using hc⟩,fun K=>?_,fun K=>?_⟩
            ·rw[hr _ hw]
             simp only
             rw[ayF,h2']
             cases φ<;>rfl
            ·rw[hr _ hwf]
             simp only[e1]
             rw[ayF,h3]
             cases φ<;>rfl
           ·exact .no (fun K=>hr _ hw K) (fun K=>hr _ hwf K)
         | false =>
           have hr:∀(S:St),aiG E S o.op=true→∀K,aeo E call fid path true S nid o K=call path true g (args.toList.map (ev S.t)) S.h fun v h=>K v {t:=S.t,h:=h}:=fun S hS K=>by
            unfold aeo
            simp only[hS,Bool.not_true,Bool.and_false]
            rw[ho]
            simp only[ev,hc,aZA,Bool.false_and,List.nil_append,List.append_nil]
           rcases hpe with hpe|⟨hpe,hse,hce⟩
           ·exact .no (fun K=>by rw[hr _ hw]; exact hpe _ _ _ _ _ _) (fun K=>by rw[hr _ hwf]; exact hpe _ _ _ _ _ _)
           cases hp:E.pure g with
           | none =>
             have h1c:1≤cls E (.call ⟨.value (.func g),args,tys⟩):=by simp only[cls,hc,hp]; cases E.sort g<;>cases E.compact g<;>simp
             have row:∀(f:List Blk→AV→(AV→List Blk→Option ρ)→Option ρ),(∀S K,aiG E S o.op=true→aeo E call fid path true S nid o K=match args.toList.map (ev S.t) with|[x]=>f S.h x fun v h=>K v {t:=S.t,h:=h}|_=>none)→cls E (.call ⟨.value (.func g),args,tys⟩)=2 →
              (∀x,(∀id∈refs1 x,lkB h2 id=lkB h id)→∃φ:Option (AV×List (Nat×Blk)),(∀r,φ=some r→∀p∈r.2,p.1∈refs1 x)∧(∀K,f h x K=φ.bind fun r=>K r.1 (aps r.2 h))∧∀K,f h2 x K=φ.bind fun r=>K r.1 (aps r.2 h2)) →
              Loc E (.call ⟨.value (.func g),args,tys⟩) nid t h t2 h2 (aeo E call fid path true {t:=t,h:=h} nid o) (aeo E call fid path true {t:=t2,h:=h2} nid o):=by
              intro f hf h2c hloc
              generalize hl:args.toList=l at hf he hmem
              rcases l with _|⟨x,_|⟨y,l⟩⟩
              ·exact .no (fun K=>hf _ K hw) (fun K=>hf _ K hwf)
              ·obtain⟨φ,q1,q2,q3⟩:=hloc (ev t x) (hs h1c x (hmem x (by simp))).one
               refine⟨φ,fun r hr' p hp=>.inr ⟨h2c,(ahB h1c).2 ⟨x,hmem x (by simp),by simp only[refs2,List.mem_append]; exact .inl (q1 r hr' p hp)⟩⟩,fun K=>?_,fun K=>?_⟩
               ·rw[hf _ K hw]
                exact q2 _
               ·rw[hf _ K hwf]
                simp only[he]
                exact q3 _
              ·exact .no (fun K=>hf _ K hw) (fun K=>hf _ K hwf)
             cases hso:E.sort g with
             | true =>
               refine row aJM (fun S K hS=>(hr S hS K).trans (hse g hp hso path true _ S.h _)) (by simp[cls,hc,hp,hso]) fun x hx1=>?_
               unfold aJM
               cases x with
               | own id g =>
                 have e3:=hx1 id (by simp[refs1,ļ])
                 simp only[e3]
                 cases lkB h id with
                 | row ty g' fz xs =>
                   cases fz<;>simp only
                   ·split
                    ·split
                     ·split
                      ·exact⟨some (_,[(id,_)]),by simp[refs1,ļ],fun K=>rfl,fun K=>rfl⟩
                      ·exact⟨none,by simp,fun K=>rfl,fun K=>rfl⟩
                     ·exact⟨none,by simp,fun K=>rfl,fun K=>rfl⟩
                    ·exact⟨none,by simp,fun K=>rfl,fun K=>rfl⟩
                   ·exact⟨none,by simp,fun K=>rfl,fun K=>rfl⟩
                 |_=>exact⟨none,by simp,fun K=>rfl,fun K=>rfl⟩
               |nils=>exact⟨some (_,[]),by simp,fun K=>rfl,fun K=>rfl⟩
               |_=>exact⟨none,by simp,fun K=>rfl,fun K=>rfl⟩
             | false =>
               cases hco:E.compact g with
               | true =>
                 refine row ahH (fun S K hS=>(hr S hS K).trans (hce g hp hso hco path true _ S.h _)) (by simp[cls,hc,hp,hso,hco]) fun x hx1=>?_
                 unfold ahH
                 cases x with
                 | own id g =>
                   have e3:=hx1 id (by simp[refs1,ļ])
                   simp only[e3]
                   cases lkB h id with
                   | row ty g' fz xs =>
                     cases fz<;>simp only
                     ·split
                      ·split
                       ·split
                        ·exact⟨some (_,[(id,_)]),by simp[refs1,ļ],fun K=>rfl,fun K=>rfl⟩
                        ·exact⟨none,by simp,fun K=>rfl,fun K=>rfl⟩
                       ·exact⟨none,by simp,fun K=>rfl,fun K=>rfl⟩
                      ·exact⟨none,by simp,fun K=>rfl,fun K=>rfl⟩
                     ·exact⟨none,by simp,fun K=>rfl,fun K=>rfl⟩
                   |_=>exact⟨none,by simp,fun K=>rfl,fun K=>rfl⟩
                 |nils=>exact⟨some (_,[]),by simp,fun K=>rfl,fun K=>rfl⟩
                 |_=>exact⟨none,by simp,fun K=>rfl,fun K=>rfl⟩
               |false=>simp[cls,hc,hp,hso,hco] at hcl
           | some p =>
             have h1c:1≤cls E (.call ⟨.value (.func g),args,tys⟩):=by simp only[cls,hc,hp]; cases E.fz g<;>simp
             have hsa:∀a∈args.toList.map (ev t),agX h h2 a:=fun a ha=>by
              obtain⟨x,hm,rfl⟩:=List.mem_map.1 ha
              exact hs h1c x (hmem x hm)
             obtain⟨u,f1,f2,f3⟩:=aMy (cs:=(args.toList.map (ev t)).flatMap afE) hlen fun c hcm id hi=>by
              obtain⟨a,ha,hca⟩:=List.mem_flatMap.1 hcm
              refine(hsa a ha).one id ?_
              cases a<;>first
               |(simp only[afE,List.mem_singleton] at hca; subst hca; exact hi)
               |(simp only[afE,List.mem_singleton] at hca; subst hca; cases hi; done)
               |exact List.mem_flatMap.2 ⟨c,hca,hi⟩
             have f3':∀q∈u,∃x∈args.toList,q.1∈refs2 h (ev t x):=fun q hq=>by
              obtain⟨c,hcm,hi⟩:=f3 q hq
              obtain⟨a,ha,hca⟩:=List.mem_flatMap.1 hcm
              obtain⟨x,hm,rfl⟩:=List.mem_map.1 ha
              refine⟨x,hm,?_⟩
              simp only[refs2,List.mem_append]
              left
              generalize ev t x=a at hca
              cases a<;>first
               |(simp only[afE,List.mem_singleton] at hca; subst hca; exact hi)
               |(simp only[afE,List.mem_singleton] at hca; subst hca; cases hi; done)
               |exact List.mem_flatMap.2 ⟨c,hca,hi⟩
             have hpk:∀(b:Bool) (h':List Blk),awE h' p.ts (args.toList.map (ev t))=awE h p.ts (args.toList.map (ev t))→apR h' ((args.toList.map (ev t)).flatMap afE)=aps u h'→∀(K:AV→List Blk→Option ρ),
              aJT b p h' (args.toList.map (ev t)) K=(match awE h p.ts (args.toList.map (ev t)) with
              | some x => (p.F x).bind fun y => match aB9 (aQT p.rs y) with
                |true=>some (aQT p.rs y,[])
                | false => match (args.toList.map (ev t)).all (fun a => !alq a) with
                  |true=>some (aQT p.rs y,[])
                  | false => match b || !(args.toList.map (ev t)).all aWL with
                    |true=>none
                    |false=>some (aQT p.rs y,u)
              |none=>none).bind fun r=>K r.1 (aps r.2 h'):=fun b h' ha hf K=>by
              unfold aJT Â
              rw[ha,hf]
              cases awE h p.ts (args.toList.map (ev t)) with
              |none=>rfl
              | some x =>
                simp only
                cases p.F x with
                |none=>rfl
                | some y =>
                  simp only[Option.bind_some]
                  cases aB9 (aQT p.rs y) with
                  |true=>rfl
                  | false => cases (args.toList.map (ev t)).all (fun a => !alq a) with
                    |true=>rfl
                    |false=>cases b||!(args.toList.map (ev t)).all aWL<;>rfl
             refine⟨_,?_,fun K=>(hr _ hw K).trans ((hpe g p hp path true _ h _).trans (hpk (true&&!E.fz g) h rfl f1 _)),fun K=>(hr _ hwf K).trans (by simp only[he]; exact(hpe g p hp path true _ h2 _).trans (hpk (true&&!E.fz g) h2 (aJC hsa) f2 _))⟩
             intro r hr1 q hq
             have hcase:r.2=[]∨(E.fz g=true∧r.2=u):=by
              cases hA:awE h p.ts (args.toList.map (ev t)) with
              |none=>rw[hA] at hr1; cases hr1
              | some x =>
                rw[hA] at hr1
                simp only at hr1
                cases hF:p.F x with
                |none=>rw[hF] at hr1; cases hr1
                | some y =>
                  rw[hF] at hr1
                  simp only[Option.bind_some] at hr1
                  split at hr1
                  ·cases hr1; exact .inl rfl
                  ·split at hr1
                   ·cases hr1; exact .inl rfl
                   ·split at hr1
                    ·cases hr1
                    ·rename_i hb
                     cases hr1
                     simp only[Bool.true_and,Bool.or_eq_false_iff,Bool.not_eq_false'] at hb
                     exact .inr ⟨hb.1,rfl⟩
             rcases hcase with hz|⟨hfz,hz⟩
             ·rw[hz] at hq; cases hq
             ·rw[hz] at hq
              obtain⟨x,hm,hi⟩:=f3' q hq
              exact .inr ⟨by simp[cls,hc,hp,hfz],(ahB h1c).2 ⟨x,hmem x hm,hi⟩⟩
       | tmp s =>
         rw[ho] at hx hs hcl
         obtain⟨g,hg⟩:∃g,E.hint s=some g:=by
          cases hh:E.hint s with
          |none=>simp[cls,hh] at hcl
          |some g=>exact⟨g,rfl⟩
         have hpf:(E.pure g).isSome=true∧E.fz g=false:=by
          simp only[cls,hg] at hcl
          split at hcl
          ·rename_i hb; simpa using hb
          ·omega
         obtain⟨hpg,hfz⟩:=hpf
         obtain⟨p,hp⟩:=Option.isSome_iff_exists.1 hpg
         have hcls:cls E (.call ⟨.value (.tmp s),args,tys⟩)=1:=by simp[cls,hg,hp,hfz]
         have hmem:∀x∈args.toList,x∈(Op.call ⟨.value (.tmp s),args,tys⟩).operands.toList:=fun x hm=>by simp[Op.operands,Call.operands]; exact .inr (by simpa using hm)
         have hms:Operand.tmp s∈(Op.call ⟨.value (.tmp s),args,tys⟩).operands.toList:=by simp[Op.operands,Call.operands]
         have he:=aIJ fun x hm=>hx x (hmem x hm)
         have hnf:aFl E t (.call ⟨.value (.tmp s),args,tys⟩)=true:=by
          have h1:=hw
          unfold aiG at h1
          rw[ho] at h1
          have hb1:Nat.ble 1 (cls E (.call ⟨.value (.tmp s),args,tys⟩))=true:=by rw[hcls]; rfl
          simp only[hb1,Bool.and_eq_true] at h1
          exact h1.2
         simp only[aFl,hg] at hnf
         split at hnf<;>try (cases hnf; done)
         rename_i g' fa fb hfn
         simp only[Bool.and_eq_true,List.all_eq_true] at hnf
         obtain⟨hgg,hna,hnb⟩:=hnf
         have hgg:g'=g:=Nat.eq_of_beq_eq_true hgg
         subst hgg
         have hfn2:=(hx _ hms).trans hfn
         have hr:∀(S:St),aiG E S o.op=true→ev S.t (.tmp s)=.fn (.func g') fa fb→∀K,aeo E call fid path true S nid o K=call path true g' (fa++(args.toList.map (ev S.t)++fb)) S.h fun v h=>K v {t:=S.t,h:=h}:=fun S hS hSf K=>by
          unfold aeo
          simp only[hS,Bool.not_true,Bool.and_false]
          rw[ho]
          simp only[hSf,aZA,Bool.and_false]
         rcases hpe with hpe|⟨hpe,hse,hce⟩
         ·exact .no (fun K=>by rw[hr _ hw hfn]; exact hpe _ _ _ _ _ _) (fun K=>by rw[hr _ hwf hfn2]; exact hpe _ _ _ _ _ _)
         have hcap:∀v,(v∈fa∨v∈fb)→a1i v=true→agX h h2 v:=fun v hv hn id hi=>by
          refine hs (by omega) _ hms id ?_
          rw[hfn]
          have e1:Go.Am.refs1 v=aWn v:=by cases v<;>first|rfl|cases hn
          simp only[refs2,List.mem_append,List.mem_flatMap,e1] at hi ⊢
          have hsub:∀i,i∈aWn v→i∈Go.Am.refs1 (.fn (.func g') fa fb):=fun i hi=>by
           simp only[Go.Am.refs1,List.mem_append,List.mem_flatMap]
           exact hv.imp (fun h=>⟨v,h,hi⟩) fun h=>⟨v,h,hi⟩
          rcases hi with hi|⟨i,hi,q⟩
          ·exact .inl (hsub _ hi)
          ·exact .inr ⟨i,hsub _ hi,q⟩
         have hsa:∀a∈fa++(args.toList.map (ev t)++fb),agX h h2 a:=fun a ha=>by
          rcases List.mem_append.1 ha with ha|ha
          ·exact hcap a (.inl ha) (hna a ha)
          ·rcases List.mem_append.1 ha with ha|ha
           ·obtain⟨x,hm,rfl⟩:=List.mem_map.1 ha
            exact hs (by omega) x (hmem x hm)
           ·exact hcap a (.inr ha) (hnb a ha)
         have hpk:∀(h':List Blk),awE h' p.ts (fa++(args.toList.map (ev t)++fb))=awE h p.ts (fa++(args.toList.map (ev t)++fb))→∀(K:AV→List Blk→Option ρ),
          aJT (true&&!E.fz g') p h' (fa++(args.toList.map (ev t)++fb)) K=(match awE h p.ts (fa++(args.toList.map (ev t)++fb)) with
          | some x => (p.F x).bind fun y => match aB9 (aQT p.rs y) with
            |true=>some (aQT p.rs y,([]:List (Nat×Blk)))
            | false => match (fa ++ (args.toList.map (ev t) ++ fb)).all (fun a => !alq a) with
              |true=>some (aQT p.rs y,[])
              |false=>none
          |none=>none).bind fun r=>K r.1 (aps r.2 h'):=fun h' ha K=>by
          unfold aJT Â
          rw[ha,hfz]
          cases awE h p.ts (fa++(args.toList.map (ev t)++fb)) with
          |none=>rfl
          | some x =>
            simp only
            cases p.F x with
            |none=>rfl
            | some y =>
              simp only[Option.bind_some]
              cases aB9 (aQT p.rs y) with
              |true=>rfl
              |false=>cases(fa++(args.toList.map (ev t)++fb)).all (fun a=>!alq a)<;>rfl
         refine⟨_,?_,fun K=>(hr _ hw hfn K).trans ((hpe g' p hp path true _ h _).trans (hpk h rfl _)),fun K=>(hr _ hwf hfn2 K).trans (by simp only[he]; exact(hpe g' p hp path true _ h2 _).trans (hpk h2 (aJC hsa) _))⟩
         intro r hr1 q hq
         exfalso
         cases hA:awE h p.ts (fa++(args.toList.map (ev t)++fb)) with
         |none=>rw[hA] at hr1; cases hr1
         | some x =>
           rw[hA] at hr1
           simp only at hr1
           cases hF:p.F x with
           |none=>rw[hF] at hr1; cases hr1
           | some y =>
             rw[hF] at hr1
             simp only[Option.bind_some] at hr1
             split at hr1
             ·cases hr1; cases hq
             ·split at hr1<;>cases hr1
              cases hq
       |_=>rw[ho] at hcl; simp[cls] at hcl
     |_=>exact ho▸plain fun _ _ _ hf=>by rw[ho] at hf; cases hf
   |_=>exact ho▸plain fun _ _ _ hf=>by rw[ho] at hf; cases hf
theorem a0X {l:List Operand} (ht:∀s∈aH9 l,lk t2 s=lk t s):∀x∈l,ev t2 x=ev t x:=by
 induction l with
 |nil=>intro x hm; cases hm
 | cons y l ih =>
   intro x hm
   rcases List.mem_cons.1 hm with rfl|hm
   ·cases x with
    |tmp i=>exact ht i (by simp[aH9])
    |_=>rfl
   ·refine ih (fun s hs=>ht s ?_) x hm
    cases y<;>simp[aH9,hs]
theorem aS5:∀(t:List AV) {d d':Nat} (v v':AV),d≠d'→upd (upd t d v) d' v'=upd (upd t d' v') d v
 |[],_,_,_,_,_=>rfl
 |_::_,0,0,_,_,h=>absurd rfl h
 |_::_,0,_+1,_,_,_=>rfl
 |_::_,_+1,0,_,_,_=>rfl
 |x::t,d+1,d'+1,v,v',h=>by simp only[upd]; rw[aS5 t v v' (by omega)]
theorem aNn:∀(t:List Blk) {d d':Nat} (v v':Blk),d≠d'→ņ (ņ t d v) d' v'=ņ (ņ t d' v') d v
 |[],_,_,_,_,_=>rfl
 |_::_,0,0,_,_,h=>absurd rfl h
 |_::_,0,_+1,_,_,_=>rfl
 |_::_,_+1,0,_,_,_=>rfl
 |x::t,d+1,d'+1,v,v',h=>by simp only[ņ]; rw[aNn t v v' (by omega)]
theorem aQ4 {da db:Option Nat} (hd:∀x,da=some x→db≠some x) (va vb:AV):ė (ė t da va) db vb=ė (ė t db vb) da va:=by
 cases da with
 |none=>rfl
 | some x => cases db with
   |none=>rfl
   |some y=>exact aS5 t va vb fun h=>hd x rfl (by rw[h])
theorem aB1 {d:Option Nat} {s:Nat} (hd:d≠some s) (v:AV):lk (ė t d v) s=lk t s:=by
 cases d with
 |none=>rfl
 | some x =>
   simp only[ė,aXb]
   rw[if_neg]
   rintro⟨rfl,_⟩
   exact hd rfl
theorem aUi:∀{u v:List (Nat×Blk)} {h:List Blk},(∀p∈u,∀q∈v,p.1≠q.1)→aps v (aps u h)=aps u (aps v h)
 |[],_,_,_=>rfl
 | p :: u, v, h, hn => by
   show aps v (aps u (ņ h p.1 p.2))=aps u (ņ (aps v h) p.1 p.2)
   rw[aUi fun q hq=>hn q (by simp[hq])]
   congr 1
   have:∀(v:List (Nat×Blk)) (h:List Blk),(∀q∈v,p.1≠q.1)→aps v (ņ h p.1 p.2)=ņ (aps v h) p.1 p.2:=by
    intro v
    induction v with
    |nil=>intro h _; rfl
    | cons q v ih =>
      intro h hq
      show aps v (ņ (ņ h p.1 p.2) q.1 q.2)=ņ (aps v (ņ h q.1 q.2)) p.1 p.2
      rw[aNn _ _ _ (hq q (by simp)),ih _ fun r hr=>hq r (by simp[hr])]
   exact this v h (hn p (by simp))
def aen (all:List Oper) (o:Oper) (t:List AV):Option Bool :=
 match o.guard with
 |none=>some true
 | some (j, want) => match lk t (ak9 all j) with
   |.bool b=>some (b==want)
   |.und=>some false
   |_=>none
def atd (E:Env ρ) (all:List Oper) (o:Oper) (S:St):List Nat :=
 match aen all o S.t with
 |some true=>atl E S o.op
 |_=>[]
def aAg (E:Env ρ) (call:List Nat→Bool→Nat→List AV→List Blk→(AV→List Blk→Option ρ)→Option ρ) (fid:Nat) (path:List Nat) (all:List Oper) (bef:List Nat) (acc:List (Nat×List Nat)) (i nid:Nat) (o:Oper) (S:St) (K:List Nat→St→Option ρ):Option ρ :=
 match aen all o S.t==some true&&!chk E all bef acc i (atl E S o.op) with
 |true=>none
 |false=>arX E call fid path true all i nid o S (K (atd E all o S))
theorem aWx {E:Env ρ} {call:List Nat→Bool→Nat→List AV→List Blk→(AV→List Blk→Option ρ)→Option ρ} {fid:Nat} {path:List Nat} {all:List Oper} {bef:List Nat} {o:Oper} {os:List Oper} {i nid:Nat} {acc:List (Nat×List Nat)} {S:St} {K:St→Option ρ} :
 aWy E call fid path all bef (o::os) i nid acc S K=aAg E call fid path all bef acc i nid o S fun F S'=>aWy E call fid path all bef os (i+1) (bif ċ E.clone o.op then nid+1 else nid) ((i,F)::acc) S' K:=by
 have hself:∀d b,lk S.t d=.bool b→({t:=upd S.t d (.bool b),h:=S.h}:St)=S:=fun d b hb=>by rw[←hb,atm]
 have htself:∀d b,lk S.t d=.bool b→upd S.t d (.bool b)=S.t:=fun d b hb=>by rw[←hb,atm]
 simp only[aWy,aAg,arX,atd,aen]
 cases o.guard with
 |none=>cases chk E all bef acc i (atl E S o.op)<;>rfl
 | some g =>
   obtain⟨j,want⟩:=g
   simp only
   cases hb:lk S.t (ak9 all j)<;>try rfl
   rename_i b
   have h1:=hself _ b hb
   have h2:=htself _ b hb
   cases b<;>cases want<;>simp only[h1,h2]<;>first
    |rfl
    |(cases chk E all bef acc i (atl E S o.op)<;>rfl)
theorem aE2 {E:Env ρ} {o:Op} (hx:∀x∈o.operands.toList,ev t2 x=ev t x) (hs:1≤cls E o→∀x∈o.operands.toList,agX h h2 (ev t x)):atl E {t:=t2,h:=h2} o=atl E {t:=t,h:=h} o:=by
 unfold atl
 split
 ·rename_i hc
  have hc1:1≤cls E o:=Nat.le_of_ble_eq_true hc
  have:∀l:List Operand,(∀x∈l,x∈o.operands.toList)→(l.flatMap fun x=>refs2 h2 (ev t2 x))=l.flatMap fun x=>refs2 h (ev t x):=by
   intro l
   induction l with
   |nil=>intro _; rfl
   | cons x l ih =>
     intro hl
     simp only[List.flatMap_cons]
     rw[hx x (hl x (by simp)),(hs hc1 x (hl x (by simp))).refs,ih fun y hy=>hl y (by simp[hy])]
  exact this _ fun _ h=>h
 ·rfl
theorem aOd {all:List Oper} {o:Oper} (ht:∀s∈aff all o,lk t2 s=lk t s):∀x∈o.op.operands.toList,ev t2 x=ev t x:=a0X fun s hm=>ht s (by simp only[aff,List.mem_append]; exact .inr hm)
theorem apv {all:List Oper} {o:Oper} (ht:∀s∈aff all o,lk t2 s=lk t s):aen all o t2=aen all o t:=by
 unfold aen
 cases hg:o.guard with
 |none=>rfl
 | some g =>
   obtain⟨j,want⟩:=g
   simp only
   rw[ht _ (by simp[aff,hg])]
theorem aY2 {E:Env ρ} {o:Op} (hc:1≤cls E o) (hw:aiG E {t:=t,h:=h} o=true):∀id∈atl E {t:=t,h:=h} o,lkB h id≠.dead:=fun id hi hd=>by
 obtain⟨x,hm,hi⟩:=(ahB hc).1 hi
 unfold aiG at hw
 have hb1:Nat.ble 1 (cls E o)=true:=Nat.ble_eq_true_of_le hc
 simp only[hb1,Bool.and_eq_true,List.all_eq_true] at hw
 have:=hw.1 x hm id hi
 rw[hd] at this
 cases this
theorem aBl {E:Env ρ} {call:List Nat→Bool→Nat→List AV→List Blk→(AV→List Blk→Option ρ)→Option ρ} {fid:Nat} {path:List Nat} {all:List Oper} {i nid:Nat} {o:Oper} (r0:ρ)
 (hpe:aYN E call) (hcl:cls E o.op≤2) (hlen:h2.length=h.length) (ht:∀s∈aff all o,lk t2 s=lk t s)
 (hs:aen all o t=some true→1≤cls E o.op→∀x∈o.op.operands.toList,agX h h2 (ev t x)) :
 ∃φ:Option (AV×List (Nat×Blk)),(∀r,φ=some r→∀p∈r.2,(p.1=nid∧ċ E.clone o.op=true)∨(cls E o.op=2∧p.1∈atd E all o {t:=t,h:=h})) ∧
  (∀r,φ=some r→∀id∈atd E all o {t:=t,h:=h},lkB h id≠.dead) ∧
  (∀K,arX E call fid path true all i nid o {t:=t,h:=h} K=φ.bind fun r=>K {t:=ė t o.dst r.1,h:=aps r.2 h}) ∧
  ∀K,arX E call fid path true all i nid o {t:=t2,h:=h2} K=φ.bind fun r=>K {t:=ė t2 o.dst r.1,h:=aps r.2 h2}:=by
 have hx:=aOd (t:=t) (t2:=t2) (o:=o) ht
 have hwt:=apv (t:=t) (t2:=t2) (o:=o) ht
 cases hw:aen all o t with
 | none =>
   rw[hw] at hwt
   have:∀(S:St),aen all o S.t=none→∀K,arX E call fid path true all i nid o S K=none:=fun S hS K=>by
    unfold aen at hS
    unfold arX
    cases hg:o.guard with
    |none=>rw[hg] at hS; cases hS
    | some g =>
      obtain⟨j,want⟩:=g
      rw[hg] at hS
      simp only at hS ⊢
      cases hb:lk S.t (ak9 all j)<;>rw[hb] at hS<;>first|rfl|cases hS
   exact⟨none,by simp,by simp,fun K=>this _ hw K,fun K=>this _ hwt K⟩
 | some b =>
   cases b with
   | false =>
     rw[hw] at hwt
     have:∀(S:St),aen all o S.t=some false→∀K,arX E call fid path true all i nid o S K=K {t:=ė S.t o.dst .und,h:=S.h}:=fun S hS K=>by
      unfold aen at hS
      unfold arX
      cases hg:o.guard with
      |none=>rw[hg] at hS; cases hS
      | some g =>
        obtain⟨j,want⟩:=g
        rw[hg] at hS
        simp only at hS ⊢
        cases hb:lk S.t (ak9 all j)<;>rw[hb] at hS<;>first|rfl|(cases hS; done)|skip
        simp only[Option.some.injEq] at hS ⊢
        rw[hS]
     refine⟨some (.und,[]),?_,?_,fun K=>this _ hw K,fun K=>this _ hwt K⟩
     ·intro r hr p hp
      cases hr
      cases hp
     ·intro r hr id hi
      simp only[atd,hw] at hi
      cases hi
   | true =>
     rw[hw] at hwt
     have hst:∀(S:St),aen all o S.t=some true→∀K,arX E call fid path true all i nid o S K=aeo E call fid (path++[i]) true S nid o fun v S=>K {t:=ė S.t o.dst v,h:=S.h}:=fun S hS K=>by
      unfold aen at hS
      unfold arX
      cases hg:o.guard with
      |none=>rfl
      | some g =>
        obtain⟨j,want⟩:=g
        rw[hg] at hS
        simp only at hS ⊢
        cases hb:lk S.t (ak9 all j)<;>rw[hb] at hS<;>first|(cases hS; done)|skip
        simp only[Option.some.injEq] at hS ⊢
        rw[hS]
     obtain⟨φ,h1,h2',h3⟩:=a03 (fid:=fid) (path:=path++[i]) (nid:=nid) hpe hcl hlen hx (hs hw)
     have hfp:atd E all o {t:=t,h:=h}=atl E {t:=t,h:=h} o.op:=by simp only[atd,hw]
     refine⟨φ,fun r hr p hp=>?_,fun r hr id hi=>?_,fun K=>by rw[hst _ hw,h2'],fun K=>by rw[hst _ hwt,h3]⟩
     ·rw[hfp]; exact h1 r hr p hp
     ·rw[hfp] at hi
      by_cases hc:1≤cls E o.op
      ·refine aY2 hc ?_ id hi
       cases hwf:aiG E {t:=t,h:=h} o.op with
       |true=>rfl
       | false =>
         exfalso
         have hk:=h2' fun v S=>some r0
         rw[hr] at hk
         simp[aeo,hwf] at hk
      ·rw[aXt (by omega)] at hi
       cases hi
theorem apg:∀{l m:List Nat},disj l m=true↔∀x∈l,x∉m
 |[],m=>by simp[disj]
 | x :: l, m => by
   simp only[disj,Bool.and_eq_true,Bool.not_eq_true',List.any_eq_false,List.mem_cons,forall_eq_or_imp,apg (l:=l)]
   refine and_congr_left fun _=>⟨fun h hm=>h x hm (Nat.beq_refl x),fun h y hy he=>?_⟩
   have:=Nat.eq_of_beq_eq_true he
   subst this
   exact h hy
structure a11 (E:Env ρ) (all:List Oper) (bef:List Nat) (ia ib:Nat) (a b:Oper):Prop where
 ha:all[ia]?=some a
 hb:all[ib]?=some b
 a3:cls E a.op≤2
 b3:cls E b.op≤2
 rb:∀s∈aff all b,a.dst≠some s
 ra:∀s∈aff all a,b.dst≠some s
 dd:∀x,a.dst=some x→b.dst≠some x
 bab:(bef.getD ib 0).testBit ia=false
 bba:(bef.getD ia 0).testBit ib=false
theorem a0M (E:Env ρ) (o:Op):cls E o≤3:=by
 cases o with
 | call c =>
   obtain⟨f,args,tys⟩:=c
   cases f with
   |value f=>cases f<;>simp only[cls]<;>(repeat' split)<;>omega
   |builtin b=>cases b<;>simp[cls]
   |_=>simp[cls]
 |_=>simp[cls]
theorem aSx {E:Env ρ} {all:List Oper} {bef:List Nat} {ia ib:Nat} {a b:Oper} (hc:aZZ E all a b=false) (ha:all[ia]?=some a) (hb:all[ib]?=some b) (h1:(bef.getD ib 0).testBit ia=false) (h2:(bef.getD ia 0).testBit ib=false):a11 E all bef ia ib a b:=by
 unfold aZZ at hc
 simp only[Bool.or_eq_false_iff,beq_eq_false_iff_ne] at hc
 obtain⟨⟨⟨⟨_,h3⟩,h5⟩,h6⟩,h7⟩:=hc
 have qa:=a0M E a.op
 have qb:=a0M E b.op
 refine⟨ha,hb,by omega,by omega,fun s hs hd=>?_,fun s hs hd=>?_,fun x hx hy=>?_,h1,h2⟩
 ·rw[hd] at h5
  simp[aZs,hs] at h5
 ·rw[hd] at h6
  simp[aZs,hs] at h6
 ·rw[hx,hy] at h7
  simp at h7
theorem atD {E:Env ρ} {all:List Oper} {bef:List Nat} {j i:Nat} {a b:Oper} {Fj Fi:List Nat} (hp:atF E all bef j i Fj Fi=true) (ha:all[j]?=some a) (hb:all[i]?=some b) (h1:(bef.getD j 0).testBit i=false) (h2:(bef.getD i 0).testBit j=false)
 (hc:arT E a.op b.op=true):∀x∈Fj,x∉Fi:=by
 unfold atF at hp
 simp only[ha,hb,hc,h1,h2,Bool.not_true,Bool.false_or] at hp
 exact apg.1 hp
theorem aSy {E:Env ρ} {a b:Op}:arT E a b=arT E b a:=by
 unfold arT; cases cls E a==2<;>cases cls E b==2<;>cases Nat.ble 1 (cls E a)<;>cases Nat.ble 1 (cls E b)<;>rfl
theorem aRf {E:Env ρ} {all:List Oper} {bef:List Nat} {j i:Nat} {Fj Fi:List Nat} (hp:atF E all bef j i Fj Fi=true):atF E all bef i j Fi Fj=true:=by
 unfold atF at hp ⊢
 cases ha:all[j]? with
 |none=>rw[ha] at hp; cases hp
 | some a => cases hb : all[i]? with
   |none=>rw[ha,hb] at hp; cases hp
   | some b =>
     rw[ha,hb] at hp
     simp only[Bool.or_eq_true,Bool.not_eq_true'] at hp ⊢
     rw[aSy]
     rcases hp with hp|hp|hp|hp
     ·exact .inl hp
     ·exact .inr (.inr (.inl hp))
     ·exact .inr (.inl hp)
     ·exact .inr (.inr (.inr (apg.2 fun x hx hy=>apg.1 hp x hy hx)))
theorem ahX {E:Env ρ} {a b:Op}:arT E a b=true↔(cls E a=2∧1≤cls E b)∨(1≤cls E a∧cls E b=2):=by
 unfold arT
 simp only[Bool.or_eq_true,Bool.and_eq_true,beq_iff_eq,Nat.ble_eq]
theorem amI {E:Env ρ} {all:List Oper} {bef:List Nat} {acc:List (Nat×List Nat)} {p:Nat×List Nat} {i:Nat} {F:List Nat}:chk E all bef (p::acc) i F=(atF E all bef p.1 i p.2 F&&chk E all bef acc i F):=by
 simp[chk]
theorem aIn {E:Env ρ} {all:List Oper} {bef:List Nat} {j i:Nat} {a b:Oper} {Fj:List Nat} (ha:all[j]?=some a) (hb:all[i]?=some b):atF E all bef j i Fj []=true:=by
 unfold atF
 simp only[ha,hb,Bool.or_eq_true]
 exact .inr (.inr (.inr (apg.2 fun x _=>by simp)))
theorem aP5 {E:Env ρ} {all:List Oper} {o:Oper} (ht:∀s∈aff all o,lk t2 s=lk t s) (hs:aen all o t=some true→1≤cls E o.op→∀x∈o.op.operands.toList,agX h h2 (ev t x)):atd E all o {t:=t2,h:=h2}=atd E all o {t:=t,h:=h}:=by
 unfold atd
 simp only[apv (t:=t) (t2:=t2) ht]
 cases hw:aen all o t with
 |none=>rfl
 | some b => cases b with
   |false=>rfl
   |true=>exact aE2 (aOd ht) (hs hw)
theorem swap {E:Env ρ} {call:List Nat→Bool→Nat→List AV→List Blk→(AV→List Blk→Option ρ)→Option ρ} {fid:Nat} {path:List Nat} {all:List Oper} {bef:List Nat} {acc:List (Nat×List Nat)} {ia na ib nb:Nat} {a b:Oper} {K:List Nat→List Nat→St→Option ρ} {r:ρ}
 (hpe:aYN E call) (hc:a11 E all bef ia ib a b) (hbd:ċ E.clone b.op=true→lkB h nb=.dead) (hn:ċ E.clone a.op=true→ċ E.clone b.op=true→na≠nb)
 (hfar1:ċ E.clone a.op=true→∀x∈b.op.operands.toList,na∉refs1 (ev t x))
 (hfar:1≤cls E b.op→ċ E.clone a.op=true→(∀p∈acc,∀c,all[p.1]?=some c→arT E c.op b.op=true→(bef.getD ib 0).testBit p.1=false→(bef.getD p.1 0).testBit ib=false→∀x∈b.op.operands.toList,∀id∈refs1 (ev t x),id∉p.2)→∀x∈b.op.operands.toList,na∉refs2 h (ev t x))
 (e:aAg E call fid path all bef acc ia na a {t:=t,h:=h} (fun Fa S=>aAg E call fid path all bef ((ia,Fa)::acc) ib nb b S (K Fa))=some r) :
 aAg E call fid path all bef acc ib nb b {t:=t,h:=h} (fun Fb S=>aAg E call fid path all bef ((ib,Fb)::acc) ia na a S fun Fa=>K Fa Fb)=some r:=by
 -- what a does
 obtain⟨φa,a0,a1,a2,_⟩:=aBl (t:=t) (t2:=t) (h:=h) (h2:=h) (call:=call) (fid:=fid) (path:=path) (i:=ia) (nid:=na) (all:=all) r hpe hc.a3 rfl (fun _ _=>rfl) (fun _ _ _ _ _ _=>rfl)
 unfold aAg at e
 split at e<;>try (cases e; done)
 rename_i hcha
 rw[a2] at e
 obtain⟨⟨va,ea⟩,q1,q2⟩:=adc e
 simp only at q2
 split at q2<;>try (cases q2; done)
 rename_i hchb
 have hal1:=a1 _ q1
 have hea:=a0 _ q1
 simp only at hea
 -- b looks at the same
 have htb:∀s∈aff all b,lk (ė t a.dst va) s=lk t s:=fun s hs=>aB1 (hc.rb s hs) _
 have htb':∀s∈aff all b,lk t s=lk (ė t a.dst va) s:=fun s hs=>(htb s hs).symm
 have hxb:=aOd htb
 have hwb:aen all b (ė t a.dst va)=aen all b t:=apv htb
 have hne1:1≤cls E b.op→aen all b t=some true→chk E all bef ((ia,atd E all a {t:=t,h:=h})::acc) ib (atl E {t:=ė t a.dst va,h:=aps ea h} b.op)=true:=fun _ hw=>by
  rw[hwb,hw] at hchb
  simpa using hchb
 have hone:aen all b t=some true→1≤cls E b.op→∀x∈b.op.operands.toList,∀id∈refs1 (ev t x),lkB (aps ea h) id=lkB h id:=fun hw h1 x hx id hi=>by
  refine aJD fun p hp hid=>?_
  rcases hea p hp with⟨h2,h3⟩|⟨h2,h3⟩
  ·exact hfar1 h3 x hx (by rw[←h2,hid]; exact hi)
  ·have hk:=hne1 h1 hw
   rw[amI,Bool.and_eq_true] at hk
   refine atD hk.1 hc.ha hc.hb hc.bba hc.bab (ahX.2 (.inl ⟨h2,h1⟩)) p.1 h3 ?_
   rw[hid]
   refine(ahB h1).2 ⟨x,hx,?_⟩
   rw[hxb x hx]
   simp only[refs2,List.mem_append]
   exact .inl hi
 have hrefs:aen all b t=some true→1≤cls E b.op→∀x∈b.op.operands.toList,refs2 (aps ea h) (ev t x)=refs2 h (ev t x):=fun hw h1 x hx=>by
  have:∀(l:List Nat),(∀id∈l,lkB (aps ea h) id=lkB h id)→(l.flatMap fun id=>(aFw (lkB (aps ea h) id)).flatMap ļ)=l.flatMap fun id=>(aFw (lkB h id)).flatMap ļ:=by
   intro l
   induction l with
   |nil=>intro _; rfl
   |cons y l ih=>intro hl; simp only[List.flatMap_cons]; rw[hl y (by simp),ih fun id hi=>hl id (by simp[hi])]
  simp only[refs2]
  rw[this _ (hone hw h1 x hx)]
 have hfar2:aen all b t=some true→1≤cls E b.op→ċ E.clone a.op=true→∀x∈b.op.operands.toList,na∉refs2 h (ev t x):=fun hw h1 h2=>hfar h1 h2 fun p hp c hc1 hc2 hb1 hb2 x hx id hi hid=>by
  have hk:=hne1 h1 hw
  rw[amI,Bool.and_eq_true] at hk
  have hk2:=List.all_eq_true.1 hk.2 p hp
  refine atD hk2 hc1 hc.hb hb2 hb1 hc2 id hid ((ahB h1).2 ⟨x,hx,?_⟩)
  rw[hxb x hx]
  simp only[refs2,List.mem_append]
  exact .inl hi
 have hsame:aen all b t=some true→1≤cls E b.op→∀x∈b.op.operands.toList,agX h (aps ea h) (ev t x):=fun hw h1 x hx id hi=>by
  refine aJD fun p hp hid=>?_
  rcases hea p hp with⟨h2,h3⟩|⟨h2,h3⟩
  ·exact hfar2 hw h1 h3 x hx (by rw[←h2,hid]; exact hi)
  ·have hk:=hne1 h1 hw
   rw[amI,Bool.and_eq_true] at hk
   refine atD hk.1 hc.ha hc.hb hc.bba hc.bab (ahX.2 (.inl ⟨h2,h1⟩)) p.1 h3 ?_
   rw[hid]
   refine(ahB h1).2 ⟨x,hx,?_⟩
   rw[hxb x hx,hrefs hw h1 x hx]
   exact hi
 -- what b does
 obtain⟨φb,b0,b1,b2,b3⟩:=aBl (t:=t) (t2:=ė t a.dst va) (h:=h) (h2:=aps ea h) (call:=call) (fid:=fid) (path:=path) (i:=ib) (nid:=nb) (all:=all) r hpe hc.b3 (ayl _ _) htb hsame
 have hfb:atd E all b {t:=ė t a.dst va,h:=aps ea h}=atd E all b {t:=t,h:=h}:=aP5 htb hsame
 rw[b3] at q2
 obtain⟨⟨vb,eb⟩,q3,q4⟩:=adc q2
 simp only at q4
 rw[hfb] at q4
 have heb:=b0 _ q3
 simp only at heb
 have hfo:aen all b t=some true→atl E {t:=ė t a.dst va,h:=aps ea h} b.op=atl E {t:=t,h:=h} b.op:=fun hw=>aE2 hxb (hsame hw)
 -- a looks at the same
 have hta:∀s∈aff all a,lk (ė t b.dst vb) s=lk t s:=fun s hs=>aB1 (hc.ra s hs) _
 have hdisj:arT E a.op b.op=true→∀id∈atd E all a {t:=t,h:=h},id∉atd E all b {t:=t,h:=h}:=fun hcl id hi hj=>by
  unfold atd at hj
  simp only at hj
  split at hj
  ·rename_i hw
   have h1:1≤cls E b.op:=by rcases ahX.1 hcl with h|h<;>omega
   have hk:=hne1 h1 hw
   rw[amI,Bool.and_eq_true,hfo hw] at hk
   exact atD hk.1 hc.ha hc.hb hc.bba hc.bab hcl id hi hj
  ·cases hj
 have hsamea:aen all a t=some true→1≤cls E a.op→∀x∈a.op.operands.toList,agX h (aps eb h) (ev t x):=fun hw h1 x hx id hi=>by
  have hidF:id∈atd E all a {t:=t,h:=h}:=by
   unfold atd
   simp only[hw]
   exact(ahB h1).2 ⟨x,hx,hi⟩
  refine aJD fun p hp hid=>?_
  rcases heb p hp with⟨h2,h3⟩|⟨h2,h3⟩
  ·exact hal1 id hidF (by rw[←hid,h2]; exact hbd h3)
  ·exact hdisj (ahX.2 (.inr ⟨h1,h2⟩)) id hidF (hid▸h3)
 obtain⟨φa',a0',a1',a2',a3'⟩:=aBl (t:=t) (t2:=ė t b.dst vb) (h:=h) (h2:=aps eb h) (call:=call) (fid:=fid) (path:=path) (i:=ia) (nid:=na) (all:=all) r hpe hc.a3 (ayl _ _) hta hsamea
 have hfa:atd E all a {t:=ė t b.dst vb,h:=aps eb h}=atd E all a {t:=t,h:=h}:=aP5 hta hsamea
 have h3:arX E call fid path true all ia na a {t:=t,h:=h} (fun S=>K (atd E all a {t:=t,h:=h}) (atd E all b {t:=t,h:=h}) {t:=ė S.t b.dst vb,h:=aps eb S.h})=some r:=by rw[a2,q1]; exact q4
 rw[a2'] at h3
 obtain⟨⟨va',ea'⟩,q5,q6⟩:=adc h3
 simp only at q6
 have hea':=a0' _ q5
 simp only at hea'
 have hcomm:aps eb (aps ea' h)=aps ea' (aps eb h):=aUi fun p hp q hq hpq=>by
  rcases hea' p hp with⟨h2,h3⟩|⟨h2,h3⟩<;>rcases heb q hq with⟨h4,h5⟩|⟨h4,h5⟩
  ·exact hn h3 h5 (by rw[←h2,←h4]; exact hpq)
  ·-- b would write a's new block
   have hw:aen all b t=some true:=by
    unfold atd at h5
    simp only at h5
    split at h5
    ·assumption
    ·cases h5
   have h5':q.1∈atl E {t:=t,h:=h} b.op:=by
    unfold atd at h5
    simp only[hw] at h5
    exact h5
   obtain⟨x,hx,hi⟩:=(ahB (by omega)).1 h5'
   exact hfar2 hw (by omega) h3 x hx (by rw[←h2,hpq]; exact hi)
  ·exact hal1 p.1 h3 (by rw[hpq,h4]; exact hbd h5)
  ·exact hdisj (ahX.2 (.inl ⟨h2,by omega⟩)) p.1 h3 (by rw[hpq]; exact h5)
 rw[aQ4 hc.dd,hcomm] at q6
 -- the checks
 have chb:(aen all b t==some true&&!chk E all bef acc ib (atl E {t:=t,h:=h} b.op))=false:=by
  cases hw:aen all b t==some true with
  |false=>rfl
  | true =>
    have hw':aen all b t=some true:=by simpa using hw
    rw[hwb,hw] at hchb
    simp only[Bool.true_and,Bool.not_eq_false'] at hchb ⊢
    rw[amI,Bool.and_eq_true,hfo hw'] at hchb
    exact hchb.2
 have cha:(aen all a (ė t b.dst vb)==some true&&!chk E all bef ((ib,atd E all b {t:=t,h:=h})::acc) ia (atl E {t:=ė t b.dst vb,h:=aps eb h} a.op))=false:=by
  rw[apv hta]
  cases hw:aen all a t==some true with
  |false=>rfl
  | true =>
    have hw':aen all a t=some true:=by simpa using hw
    rw[hw] at hcha
    simp only[Bool.true_and,Bool.not_eq_false'] at hcha ⊢
    rw[aE2 (aOd hta) (hsamea hw'),amI,Bool.and_eq_true]
    refine⟨aRf ?_,hcha⟩
    have hfa0:atd E all a {t:=t,h:=h}=atl E {t:=t,h:=h} a.op:=by simp only[atd,hw']
    cases hwb':aen all b t with
    | some wb => cases wb with
      | true =>
        rw[hwb,hwb'] at hchb
        simp only[beq_self_eq_true,Bool.true_and,Bool.not_eq_false'] at hchb
        rw[amI,Bool.and_eq_true,hfo hwb',hfa0] at hchb
        simp only[atd,hwb']
        exact hchb.1
      |false=>simp only[atd,hwb']; exact aIn hc.ha hc.hb
    |none=>simp only[atd,hwb']; exact aIn hc.ha hc.hb
 unfold aAg
 simp only[chb]
 rw[b2,q3]
 simp only[Option.bind_some,cha]
 rw[a3',q5]
 simp only[Option.bind_some]
 rw[hfa]
 exact q6
abbrev Item:=Nat×Nat×Oper
def ag8 (clone:Nat→Bool):List Oper→Nat→Nat→List Item
 |[],_,_=>[]
 |o::os,i,nid=>(i,nid,o)::ag8 clone os (i+1) (bif ċ clone o.op then nid+1 else nid)
def aTf (E:Env ρ) (call:List Nat→Bool→Nat→List AV→List Blk→(AV→List Blk→Option ρ)→Option ρ) (fid:Nat) (path:List Nat) (all:List Oper) (bef:List Nat):List Item→List (Nat×List Nat)→St→(St→Option ρ)→Option ρ
 |[],_,S,K=>K S
 |x::l,acc,S,K=>aAg E call fid path all bef acc x.1 x.2.1 x.2.2 S fun F S=>aTf E call fid path all bef l ((x.1,F)::acc) S K
theorem aOf {E:Env ρ} {call:List Nat→Bool→Nat→List AV→List Blk→(AV→List Blk→Option ρ)→Option ρ} {fid:Nat} {path:List Nat} {all:List Oper} {bef:List Nat}:∀(os:List Oper) (i nid:Nat) (acc:List (Nat×List Nat)) (S:St) (K:St→Option ρ),
 aWy E call fid path all bef os i nid acc S K=aTf E call fid path all bef (ag8 E.clone os i nid) acc S K
 |[],_,_,_,_,_=>rfl
 | o :: os, i, nid, acc, S, K => by
   rw[aWx]
   simp only[ag8,aTf]
   congr 1
   funext F S'
   exact aOf os _ _ _ S' K
theorem aZ2 {E:Env ρ} {all:List Oper} {bef:List Nat} {acc acc':List (Nat×List Nat)} {i:Nat} {F:List Nat} (h:∀p,p∈acc↔p∈acc'):chk E all bef acc i F=chk E all bef acc' i F:=by
 rw[Bool.eq_iff_iff]
 simp only[chk,List.all_eq_true]
 exact forall_congr' fun p=>by rw[h p]
theorem aNG {E:Env ρ} {call:List Nat→Bool→Nat→List AV→List Blk→(AV→List Blk→Option ρ)→Option ρ} {fid:Nat} {path:List Nat} {all:List Oper} {bef:List Nat} {K:St→Option ρ}:∀(l:List Item) {acc acc':List (Nat×List Nat)} (S:St),(∀p,p∈acc↔p∈acc') →
 aTf E call fid path all bef l acc S K=aTf E call fid path all bef l acc' S K
 |[],_,_,_,_=>rfl
 | x :: l, acc, acc', S, h => by
   simp only[aTf,aAg]
   rw[aZ2 h]
   split
   ·rfl
   ·congr 1
    funext S'
    exact aNG l S' fun p=>by simp[h p]
theorem a0Q {E:Env ρ} {call:List Nat→Bool→Nat→List AV→List Blk→(AV→List Blk→Option ρ)→Option ρ} {fid:Nat} {path:List Nat} {all:List Oper} {bef:List Nat} {b:Item} {rest:List Item} {K:St→Option ρ} {r:ρ} {h0:List Blk} {t0:List AV}
 (hpe:aYN E call) :
 ∀(as:List Item) (acc:List (Nat×List Nat)) (t:List AV) (h:List Blk),(∀a∈as,a11 E all bef a.1 b.1 a.2.2 b.2.2)→(∀s∈aff all b.2.2,lk t s=lk t0 s)→(ċ E.clone b.2.2.op=true→lkB h b.2.1=.dead) →
  (∀a∈as,ċ E.clone a.2.2.op=true→ċ E.clone b.2.2.op=true→a.2.1≠b.2.1)→(∀a∈as,ċ E.clone a.2.2.op=true→∀x∈b.2.2.op.operands.toList,a.2.1∉refs2 h0 (ev t0 x)) →
  (1≤cls E b.2.2.op→∀x∈b.2.2.op.operands.toList,∀id∈refs1 (ev t0 x),lkB h id=lkB h0 id∨∃p∈acc,(∃c,all[p.1]?=some c∧arT E c.op b.2.2.op=true∧(bef.getD b.1 0).testBit p.1=false∧(bef.getD p.1 0).testBit b.1=false)∧id∈p.2) →
  aTf E call fid path all bef (as++b::rest) acc {t:=t,h:=h} K=some r→aTf E call fid path all bef (b::(as++rest)) acc {t:=t,h:=h} K=some r
 |[],acc,t,h,_,_,_,_,_,_,e=>e
 | a :: as, acc, t, h, hap, ht, hbd, hn, hfar, hinv, e => by
   have hA:=hap a (by simp)
   have hx0:∀x∈b.2.2.op.operands.toList,ev t x=ev t0 x:=aOd ht
   have hf1:ċ E.clone a.2.2.op=true→∀x∈b.2.2.op.operands.toList,a.2.1∉refs1 (ev t x):=fun hal x hx hi=>hfar a (by simp) hal x hx (by
    rw[hx0 x hx] at hi
    simp only[refs2,List.mem_append]
    exact .inl hi)
   simp only[List.cons_append,aTf] at e ⊢
   have fin:=swap (K:=fun Fa Fb S=>aTf E call fid path all bef (as++rest) ((b.1,Fb)::(a.1,Fa)::acc) S K) (r:=r) (t:=t) (h:=h) (acc:=acc) (ia:=a.1) (na:=a.2.1) (ib:=b.1) (nb:=b.2.1) (a:=a.2.2) (b:=b.2.2) (fid:=fid) (path:=path) hpe hA hbd (hn a (by simp)) hf1
    (fun h1 hal hno x hx=>by
     rw[hx0 x hx]
     have hcells:∀id∈refs1 (ev t0 x),lkB h id=lkB h0 id:=fun id hi=>(hinv h1 x hx id hi).resolve_right fun⟨p,hp,⟨c,c1,c2,c3,c4⟩,hid⟩=>hno p hp c c1 c2 c3 c4 x hx id (by rw[hx0 x hx]; exact hi) hid
     have:refs2 h (ev t0 x)=refs2 h0 (ev t0 x):=by
      have key:∀(l:List Nat),(∀id∈l,lkB h id=lkB h0 id)→(l.flatMap fun id=>(aFw (lkB h id)).flatMap ļ)=l.flatMap fun id=>(aFw (lkB h0 id)).flatMap ļ:=by
       intro l
       induction l with
       |nil=>intro _; rfl
       |cons y l ih=>intro hl; simp only[List.flatMap_cons]; rw[hl y (by simp),ih fun id hi=>hl id (by simp[hi])]
      simp only[refs2]
      rw[key _ hcells]
     rw[this]
     exact hfar a (by simp) hal x hx) ?_
   ·have hperm:∀(Fa Fb:List Nat) (S:St),aTf E call fid path all bef (as++rest) ((b.1,Fb)::(a.1,Fa)::acc) S K=aTf E call fid path all bef (as++rest) ((a.1,Fa)::(b.1,Fb)::acc) S K:=fun Fa Fb S=>aNG _ S fun p=>by
     simp only[List.mem_cons]
     constructor<;>rintro(h|h|h)<;>simp[h]
    simp only[hperm] at fin
    exact fin
   ·-- behind a
    obtain⟨φa,a0,a1,a2,_⟩:=aBl (t:=t) (t2:=t) (h:=h) (h2:=h) (call:=call) (fid:=fid) (path:=path) (i:=a.1) (nid:=a.2.1) (all:=all) r hpe hA.a3 rfl (fun _ _=>rfl) (fun _ _ _ _ _ _=>rfl)
    unfold aAg at e ⊢
    split at e<;>try (cases e; done)
    rename_i hcha
    simp only[hcha]
    rw[a2] at e ⊢
    obtain⟨⟨va,ea⟩,q1,q2⟩:=adc e
    rw[q1]
    simp only[Option.bind_some]
    have hal1:=a1 _ q1
    have hea:=a0 _ q1
    simp only at hea q2
    refine a0Q hpe as _ _ _ (fun c hc=>hap c (by simp[hc])) (fun s hs=>(aB1 (hA.rb s hs) _).trans (ht s hs)) (fun hal=>?_) (fun c hc=>hn c (by simp[hc])) (fun c hc=>hfar c (by simp[hc])) (fun h1 x hx id hi=>?_) q2
    ·refine(aJD fun p hp hid=>?_).trans (hbd hal)
     rcases hea p hp with⟨h2,h3⟩|⟨h2,h3⟩
     ·exact hn a (by simp) h3 hal (h2.symm.trans hid)
     ·exact hal1 p.1 h3 (by rw[hid]; exact hbd hal)
    ·by_cases hin:∃p∈ea,p.1=id
     ·obtain⟨p,hp,hid⟩:=hin
      rcases hea p hp with⟨h2,h3⟩|⟨h2,h3⟩
      ·exfalso
       exact hf1 h3 x hx (by rw[hx0 x hx,←h2,hid]; exact hi)
      ·exact .inr ⟨(a.1,_),List.mem_cons_self ..,⟨a.2.2,hA.ha,ahX.2 (.inl ⟨h2,h1⟩),hA.bab,hA.bba⟩,hid▸h3⟩
     ·have hne:lkB (aps ea h) id=lkB h id:=aJD fun p hp hid=>hin ⟨p,hp,hid⟩
      rw[hne]
      rcases hinv h1 x hx id hi with h2|⟨p,hp,h2⟩
      ·exact .inl h2
      ·exact .inr ⟨p,by simp[hp],h2⟩
section
variable {ν:Nat→Value} {w:World}
theorem VR0.refs {a:AV} {v:Value} (hv:VR0 ν h w a v):∀id∈ļ a,lkB h id≠.dead:=by
 intro id hi hd
 cases a<;>simp only[ļ,List.mem_singleton,List.not_mem_nil] at hi
 ·subst hi; obtain⟨_,t,g',fz,xs,hl,_⟩:=hv; rw[hd] at hl; cases hl
 ·subst hi; obtain⟨_,t,g',fz,xs,hl,_⟩:=hv; rw[hd] at hl; cases hl
 ·subst hi; obtain⟨_,t,g',fz,hl,_⟩:=hv; rw[hd] at hl; cases hl
 ·subst hi; obtain⟨_,_,hl,_⟩:=hv; rw[hd] at hl; cases hl
 ·subst hi; obtain⟨_,t,g',fz,xs,hl,_⟩:=hv; rw[hd] at hl; cases hl
theorem VR1.refs {a:AV} {v:Value} (hv:VR1 ν h w a v):∀id∈ļ a,lkB h id≠.dead:=by
 cases hf:a.isFn with
 |true=>cases a<;>first|(cases hf; done)|(intro id hi; cases hi)
 |false=>rw[aFR hf] at hv; exact hv.refs
theorem Ė.left_mem {α β:Type} {R:α→β→Prop}:∀{l:List α} {m:List β},Ė R l m→∀a∈l,∃b∈m,R a b
 |[],_,_,a,ha=>by cases ha
 | x :: l, y :: m, h, a, ha => by
   rcases List.mem_cons.1 ha with rfl|ha
   ·exact⟨y,by simp,h.1⟩
   ·obtain⟨b,hb,hr⟩:=Ė.left_mem h.2 a ha
    exact⟨b,by simp[hb],hr⟩
 |_::_,[],h,_,_=>h.elim
theorem VR.refs1 {a:AV} {v:Value} (hv:VR ν h w a v):∀id∈Go.Am.refs1 a,lkB h id≠.dead:=by
 cases hag:a.isAgg with
 | true =>
   cases a<;>try cases hag
   obtain⟨us,_,h2⟩:=hv
   intro id hi
   simp only[Go.Am.refs1,List.mem_flatMap] at hi
   obtain⟨c,hc,hi⟩:=hi
   obtain⟨u,_,hu⟩:=h2.left_mem c hc
   exact hu.1.refs id hi
 | false =>
   cases htu:a.isTup with
   |true=>cases a<;>first|(cases htu; done)|(intro id hi; cases hi)
   | false =>
     have h1:=hv.one hag htu
     have h2:=h1.refs
     cases a with
     | fn f fa fb =>
       obtain⟨fs,cs,_,h3,h4⟩:=h1
       have one:∀c u,VR0 ν h w c u→∀id∈aWn c,lkB h id≠.dead:=fun c u hu id hi=>by
        cases c with
        |agg=>exact hu.elim
        |_=>exact hu.refs id hi
       intro id hi
       simp only[Go.Am.refs1,List.mem_append,List.mem_flatMap] at hi
       rcases hi with⟨c,hc,hi⟩|⟨c,hc,hi⟩
       ·obtain⟨u,_,hu⟩:=h3.left_mem c hc
        exact one c u hu id hi
       ·obtain⟨u,_,hu⟩:=h4.left_mem c hc
        exact one c u hu id hi
     |agg=>cases hag
     |_=>exact h2
theorem VR.refs2 (H:HR ν h w) {a:AV} {v:Value} (hv:VR ν h w a v):∀id∈Go.Am.refs2 h a,lkB h id≠.dead:=by
 intro id hi
 simp only[Go.Am.refs2,List.mem_append,List.mem_flatMap] at hi
 rcases hi with hi|⟨j,hj,c,hc,hi⟩
 ·exact hv.refs1 id hi
 ·have hB:=H.blk j
  cases hl:lkB h j with
  | cells cs =>
    rw[hl] at hB hc
    obtain⟨b,arr,e,_,_,h3⟩:=hB
    obtain⟨u,_,hu⟩:=h3.left_mem c hc
    exact hu.1.refs id hi
  |_=>rw[hl] at hc; cases hc
end
end
end Go.Am
end
noncomputable section
namespace Go.Am
variable [ò]
section
variable {ρ:Type} {ν:Nat→Value} {h:List Blk} {w:World}
def aYp (acc:List Nat) (o:Oper):Nat:=o.after.toList.foldl (fun s e=>if Region.binds .any e then s ||| 2 ^ e.on ||| acc.getD e.on 0 else s) 0
theorem ayN:∀(os:List Oper) (acc:List Nat),∃l,Ŷ os acc=acc++l∧∀(k:Nat) (o:Oper),os[k]?=some o→(acc++l).getD (acc.length+k) 0=aYp ((acc++l).take (acc.length+k)) o
 |[],acc=>⟨[],by simp[Ŷ],by simp⟩
 | o :: os, acc => by
   obtain⟨l,h1,h2⟩:=ayN os (acc++[aYp acc o])
   refine⟨aYp acc o::l,?_,?_⟩
   ·simp only[Ŷ]
    show Ŷ os (acc++[aYp acc o])=_
    rw[h1]; simp
   ·intro k o' hk
    cases k with
    | zero =>
      simp only[List.getElem?_cons_zero,Option.some.injEq] at hk
      subst hk
      simp[List.getD]
    | succ k =>
      have:=h2 k o' (by simpa using hk)
      simp only[List.append_assoc,List.singleton_append,List.length_append,List.length_singleton] at this
      rw[show acc.length+(k+1)=acc.length+1+k by omega]
      exact this
theorem aYo {os:List Oper} {k:Nat} {o:Oper} (hk:os[k]?=some o):(Ŷ os []).getD k 0=aYp ((Ŷ os []).take k) o:=by
 obtain⟨l,h1,h2⟩:=ayN os []
 rw[h1]
 simpa using h2 k o hk
theorem aMA {acc:List Nat} {i:Nat}:∀(es:List Edge) (s:Nat),(es.foldl (fun s e=>if Region.binds .any e then s ||| 2 ^ e.on ||| acc.getD e.on 0 else s) s).testBit i=true →
 s.testBit i=true∨∃e∈es,Region.binds .any e=true∧(i=e.on∨(acc.getD e.on 0).testBit i=true)
 |[],s,h=>.inl h
 | e :: es, s, h => by
   simp only[List.foldl_cons] at h
   rcases aMA es _ h with h1|⟨e',hm,h1⟩
   ·split at h1
    ·rename_i hb
     simp only[Nat.testBit_or,Bool.or_eq_true,Nat.testBit_two_pow,decide_eq_true_eq] at h1
     rcases h1 with(h1|h1)|h1
     ·exact .inl h1
     ·exact .inr ⟨e,by simp,hb,.inl h1.symm⟩
     ·exact .inr ⟨e,by simp,hb,.inr h1⟩
    ·exact .inl h1
   ·exact .inr ⟨e',by simp[hm],h1⟩
theorem apf {E:Env ρ} {all:List Oper} {bef:List Nat}:∀{bs:List Oper} {j0:Nat},aqa E all bef bs j0=true→∀(k:Nat) (b:Oper),bs[k]?=some b→∀(i:Nat) (a:Oper),i<j0+k→all[i]?=some a→aZZ E all a b=false∨(bef.getD (j0+k) 0).testBit i=true
 |[],_,_,k,b,hk,_,_,_,_=>by simp at hk
 | x :: bs, j0, h, k, b, hk, i, a, hi, ha => by
   simp only[aqa,Bool.and_eq_true,List.all_eq_true,List.mem_range] at h
   cases k with
   | zero =>
     simp only[List.getElem?_cons_zero,Option.some.injEq] at hk
     subst hk
     have:=h.1 i (by omega)
     rw[ha] at this
     simp only[Bool.or_eq_true,Bool.not_eq_true'] at this
     simpa using this
   | succ k =>
     have:=apf h.2 k b (by simpa using hk) i a (by omega) ha
     rwa [show j0+1+k=j0+(k+1) by omega] at this
theorem amK:∀{os:List Oper} {j:Nat},aQC os j=true→∀(k:Nat) (o:Oper),os[k]?=some o→∀e∈o.after,Region.binds .any e=true→e.on<j+k
 |[],_,_,k,o,hk,_,_,_=>by simp at hk
 | x :: os, j, h, k, o, hk, e, he, hb => by
   simp only[aQC,Bool.and_eq_true,List.all_eq_true] at h
   cases k with
   | zero =>
     simp only[List.getElem?_cons_zero,Option.some.injEq] at hk
     subst hk
     have:=h.1 e (by simpa using he)
     simp only[hb,Bool.not_true,Bool.false_or,decide_eq_true_eq] at this
     omega
   | succ k =>
     have:=amK h.2 k o (by simpa using hk) e he hb
     omega
theorem bef_lt {os:List Oper} (hb:aQC os 0=true):∀(j i:Nat),((Ŷ os []).getD j 0).testBit i=true→i<j:=by
 intro j
 induction j using Nat.strongRecOn with
 | ind j ih =>
   intro i hi
   cases ho:os[j]? with
   | none =>
     obtain⟨l,h1,_⟩:=ayN os []
     have hlen:∀(os:List Oper) (acc:List Nat),(Ŷ os acc).length=acc.length+os.length:=by
      intro os
      induction os with
      |nil=>intro acc; simp[Ŷ]
      |cons o os ih=>intro acc; simp only[Ŷ]; rw[ih]; simp; omega
     have:(Ŷ os [])[j]?=none:=by
      rw[List.getElem?_eq_none_iff] at ho ⊢
      rw[hlen]; simpa using ho
     simp[List.getD,this] at hi
   | some o =>
     rw[aYo ho] at hi
     rcases aMA _ _ hi with hz|⟨ed,h1,h2,h3⟩
     ·simp at hz
     ·have hlt:=amK hb j o ho ed (by simpa using h1) h2
      rw[Nat.zero_add] at hlt
      rcases h3 with rfl|h3
      ·exact hlt
      ·have:((Ŷ os []).getD ed.on 0).testBit i=true:=by
        rw[←h3]
        congr 1
        simp only[List.getD,List.getElem?_take]
        rw[if_pos (by omega)]
       exact Nat.lt_trans (ih ed.on hlt i this) hlt
theorem aiq {clone:Nat→Bool}:∀{os:List Oper} {i nid:Nat} {x:Item},x∈ag8 clone os i nid→∃k,os[k]?=some x.2.2∧x.1=i+k∧nid≤x.2.1∧(ċ clone x.2.2.op=true→x.2.1<nid+adn clone os)
 |[],_,_,_,hx=>by cases hx
 | o :: os, i, nid, x, hx => by
   simp only[ag8,List.mem_cons] at hx
   rcases hx with rfl|hx
   ·exact⟨0,by simp,rfl,Nat.le_refl _,fun h=>by rw[agy]; simp only at h; rw[h]; simp⟩
   ·obtain⟨k,h1,h2,h3,h4⟩:=aiq hx
    refine⟨k+1,by simpa using h1,by omega,?_,fun h=>?_⟩
    ·cases hal:ċ clone o.op<;>rw[hal] at h3<;>simp at h3<;>omega
    ·have:=h4 h
     rw[agy]
     cases hal:ċ clone o.op<;>rw[hal] at this<;>simp at this ⊢<;>omega
theorem av2 {clone:Nat→Bool}:∀{os:List Oper} {i nid k:Nat} {o:Oper},os[k]?=some o→∃n,(i+k,n,o)∈ag8 clone os i nid
 |[],_,_,k,_,h=>by simp at h
 | x :: os, i, nid, 0, o, h => by
   simp only[List.getElem?_cons_zero,Option.some.injEq] at h
   subst h
   exact⟨nid,by simp[ag8]⟩
 | x :: os, i, nid, k + 1, o, h => by
   obtain⟨n,hn⟩:=av2 (clone:=clone) (i:=i+1) (nid:=bif ċ clone x.op then nid+1 else nid) (os:=os) (k:=k) (o:=o) (by simpa using h)
   exact⟨n,by simp only[ag8,List.mem_cons]; right; rwa [show i+(k+1)=i+1+k by omega]⟩
theorem ayn {clone:Nat→Bool}:∀{os:List Oper} {i nid:Nat},(ag8 clone os i nid).Pairwise fun x y=>x.1<y.1∧(ċ clone x.2.2.op=true→x.2.1<y.2.1)
 |[],_,_=>List.Pairwise.nil
 | o :: os, i, nid => by
   refine List.Pairwise.cons (fun y hy=>?_) ayn
   obtain⟨k,_,h2,h3,_⟩:=aiq hy
   refine⟨by simp only; omega,fun hal=>?_⟩
   simp only at hal
   rw[hal] at h3
   simp at h3 ⊢
   omega
theorem aVd {l:List Item} {p p':Item→Bool} {b:Item} (hp:l.Pairwise fun x y=>x.1<y.1) (hb:b∈l) (hpb:p b=true) (hpp:∀x∈l,p' x=(p x&&x.1 != b.1)) :
 ∃as rest,l.filter p=as++b::rest∧l.filter p'=as++rest∧∀a∈as,a∈l∧p a=true∧a.1<b.1:=by
 obtain⟨l1,l2,rfl⟩:=List.append_of_mem hb
 rw[List.pairwise_append] at hp
 obtain⟨_,h2,h3⟩:=hp
 have h1:∀x∈l1,x.1<b.1:=fun x hx=>h3 x hx b (by simp)
 have h4:∀x∈l2,b.1<x.1:=fun x hx=>(List.pairwise_cons.1 h2).1 x hx
 refine⟨l1.filter p,l2.filter p,by simp[hpb],?_,fun a ha=>?_⟩
 ·have e1:l1.filter p'=l1.filter p:=List.filter_congr fun x hx=>by
   rw[hpp x (by simp[hx])]
   have:(x.1 != b.1)=true:=by have:=h1 x hx; simp; omega
   rw[this]; simp
  have e2:l2.filter p'=l2.filter p:=List.filter_congr fun x hx=>by
   rw[hpp x (by simp[hx])]
   have:(x.1 != b.1)=true:=by have:=h4 x hx; simp; omega
   rw[this]; simp
  have e3:p' b=false:=by rw[hpp b (by simp)]; simp
  simp[e1,e2,e3]
 ·rw[List.mem_filter] at ha
  exact⟨by simp[ha.1],ha.2,h1 a ha.1⟩
theorem aTl {α:Type} {R:α→α→Prop}:∀{l:List α},l.Pairwise R→∀x∈l,∀y∈l,x=y∨R x y∨R y x
 |[],_,_,hx,_,_=>by cases hx
 | z :: l, h, x, hx, y, hy => by
   rw[List.pairwise_cons] at h
   rcases List.mem_cons.1 hx with hx|hx
   ·rcases List.mem_cons.1 hy with hy|hy
    ·exact .inl (hx.trans hy.symm)
    ·rw[hx]; exact .inr (.inl (h.1 y hy))
   ·rcases List.mem_cons.1 hy with hy|hy
    ·rw[hy]; exact .inr (.inr (h.1 x hx))
    ·exact aTl h.2 x hx y hy
theorem aZQ {E:Env ρ} {call:List Nat→Bool→Nat→List AV→List Blk→(AV→List Blk→Option ρ)→Option ρ} {L:Nat} (hE:afG E L call) {fid:Nat} {path:List Nat} {ops:Array Oper} (hp:path.length+1=L) (hg:ajG ops.toList ops.toList=true)
 (hd:aXI E ops.toList=true) {base:Nat} {K:St→Option ρ} {r:ρ} {Q:Exit→Act→World→Prop} {m:Nat} (hmb:m≤base) :
 ∀(fuel:Nat) (listed:Array Bool) (acc:List (Nat×List Nat)) (S:St) (a:Act) (ν:Nat→Value) (w:World),listed.size=ops.size →
  (∀j i,listed.getD j false=true→((Ŷ ops.toList []).getD j 0).testBit i=true→listed.getD i false=true) →
  ((ag8 E.clone ops.toList 0 base).filter fun x=>!listed.getD x.1 true).length=fuel→Sim ν S a w →
  (∀x∈(ag8 E.clone ops.toList 0 base).filter fun x=>!listed.getD x.1 true,ċ E.clone x.2.2.op=true→x.2.1<S.h.length∧lkB S.h x.2.1=.dead)→m≤S.h.length →
  aTf E call fid path ops.toList (Ŷ ops.toList []) ((ag8 E.clone ops.toList 0 base).filter fun x=>!listed.getD x.1 true) acc S K=some r →
  (∀ν' S' a' w',Sim ν' S' a' w'→Ev m ν S.h w ν' S'.h w'→m≤S'.h.length→Dd m S.h S'.h→K S'=some r→Q .normal a' w') →
  wpAnyIn fen 0 E.P .any ops Q fuel listed a w:=by
 simp only[aXI,Bool.and_eq_true] at hd
 obtain⟨hback,hdr⟩:=hd
 have getD_tf:∀{listed:Array Bool} {j:Nat},listed.size=ops.size→j<ops.size→listed.getD j true=listed.getD j false:=fun {listed j} hs hj=>by
  have:j<listed.size:=by omega
  simp[this]
 have hpw:=(ayn (clone:=E.clone) (os:=ops.toList) (i:=0) (nid:=base)).imp fun {x y} h=>h.1
 intro fuel
 induction fuel with
 | zero =>
   intro listed acc S a ν w hsz hcl hlen H hdead hm e hQ
   have hnil:=List.length_eq_zero_iff.1 hlen
   refine⟨?_,?_⟩
   ·rw[List.eq_nil_iff_forall_not_mem]
    intro j hj
    obtain⟨h0,o,ho,_⟩:=mem_ready.1 hj
    obtain⟨n,hn⟩:=av2 (clone:=E.clone) (i:=0) (nid:=base) (os:=ops.toList) (k:=j) (o:=o) (by simpa using ho)
    have:(0+j,n,o)∈(ag8 E.clone ops.toList 0 base).filter fun x=>!listed.getD x.1 true:=List.mem_filter.2 ⟨hn,by simp only[Nat.zero_add]; rw[h0]; rfl⟩
    rw[hnil] at this
    cases this
   ·rw[hnil] at e
    exact hQ ν S a w H (Ev.refl _ _ _ _) hm (Dd.refl _ _) e
 | succ fuel ih =>
   intro listed acc S a ν w hsz hcl hlen H hdead hm e hQ
   refine⟨fun hr=>?_,fun j hj=>?_⟩
   ·-- the first of those that are left is ready
    exfalso
    cases hrem:(ag8 E.clone ops.toList 0 base).filter fun x=>!listed.getD x.1 true with
    |nil=>rw[hrem] at hlen; simp at hlen
    | cons x l =>
      have hx:x∈(ag8 E.clone ops.toList 0 base).filter fun x=>!listed.getD x.1 true:=by rw[hrem]; simp
      rw[List.mem_filter] at hx
      obtain⟨k,h1,h2,_⟩:=aiq hx.1
      have hk:x.1=k:=by omega
      have hready:x.1∈Region.ready .any ops listed:=mem_ready.2 ⟨by simpa using hx.2,x.2.2,by rw[hk]; simpa using h1,fun ed hed hb=>by
       have hlt:=amK hback k x.2.2 h1 ed hed hb
       have hks:k<ops.size:=by
        have:=(List.getElem?_eq_some_iff.1 h1).1
        simpa using this
       cases hl:listed.getD ed.on false with
       |true=>rfl
       | false =>
         exfalso
         obtain⟨o',ho'⟩:∃o',ops.toList[ed.on]?=some o':=⟨_,List.getElem?_eq_getElem (by simp; omega)⟩
         obtain⟨n,hn⟩:=av2 (clone:=E.clone) (i:=0) (nid:=base) ho'
         have hin:(0+ed.on,n,o')∈x::l:=by
          rw[←hrem]
          refine List.mem_filter.2 ⟨hn,?_⟩
          simp only[Nat.zero_add]
          rw[getD_tf hsz (by omega),hl]
          rfl
         have hpl:(x::l).Pairwise fun x y=>x.1<y.1:=by rw[←hrem]; exact hpw.filter _
         rcases List.mem_cons.1 hin with h3|h3
         ·rw[←h3] at hk; simp at hk; omega
         ·have:=(List.pairwise_cons.1 hpl).1 _ h3
          simp only at this; omega⟩
      rw[hr] at hready
      cases hready
   ·obtain⟨h0,o,ho,hed⟩:=mem_ready.1 hj
    have hjs:j<ops.size:=(Array.getElem?_eq_some_iff.1 ho).1
    have hol:ops.toList[j]?=some o:=by simpa using ho
    obtain⟨n,hn⟩:=av2 (clone:=E.clone) (i:=0) (nid:=base) hol
    rw[Nat.zero_add] at hn
    have hpp:∀x∈ag8 E.clone ops.toList 0 base,(fun x:Item=>!(listed.setIfInBounds j true).getD x.1 true) x=((fun x:Item=>!listed.getD x.1 true) x&&x.1 != j):=fun x hx=>by
     by_cases hxj:x.1=j
     ·simp only[hxj]
      have:j<listed.size:=by omega
      simp[this]
     ·have h1:(listed.setIfInBounds j true).getD x.1 true=listed.getD x.1 true:=getD_set_ne true (Ne.symm hxj)
      have h2:(x.1 != j)=true:=by simpa using hxj
      simp only[h1,h2,Bool.and_true]
    obtain⟨as,rest,f1,f2,f3⟩:=aVd (b:=(j,n,o)) hpw hn (by simp only[h0]; rfl) hpp
    have hbit:∀i,((Ŷ ops.toList []).getD j 0).testBit i=true→listed.getD i false=true:=fun i hi=>by
     rw[aYo hol] at hi
     rcases aMA _ _ hi with hz|⟨ed,h1,h2,h3⟩
     ·simp at hz
     ·have hl:=hed ed (by simpa using h1) h2
      rcases h3 with rfl|h3
      ·exact hl
      ·refine hcl ed.on i hl ?_
       have hlt:=amK hback j o hol ed (by simpa using h1) h2
       rw[←h3]
       congr 1
       simp only[List.getD,List.getElem?_take]
       rw[if_pos (by omega)]
    have hpairs:=ayn (clone:=E.clone) (os:=ops.toList) (i:=0) (nid:=base)
    have hmemj:((j,n,o):Item)∈(ag8 E.clone ops.toList 0 base).filter fun x=>!listed.getD x.1 true:=by rw[f1]; simp
    have hne:∀x∈(ag8 E.clone ops.toList 0 base).filter (fun x=>!listed.getD x.1 true),x≠(j,n,o)→ċ E.clone x.2.2.op=true→ċ E.clone o.op=true→x.2.1≠n:=fun x hx hxj h1 h2=>by
     have hsub:((ag8 E.clone ops.toList 0 base).filter fun x=>!listed.getD x.1 true).Pairwise fun x y=>x.1<y.1∧(ċ E.clone x.2.2.op=true→x.2.1<y.2.1):=hpairs.filter _
     rcases aTl hsub x hx _ hmemj with he|hr|hr
     ·exact absurd he hxj
     ·exact Nat.ne_of_lt (hr.2 h1)
     ·exact(Nat.ne_of_lt (hr.2 h2)).symm
    rw[f1] at e
    have e':=a0Q (b:=(j,n,o)) (h0:=S.h) (t0:=S.t) (K:=K) (r:=r) hE.pureEq as acc S.t S.h (fun x hx=>by
     obtain⟨g1,g2,g3⟩:=f3 x hx
     obtain⟨k,h1,h2,_⟩:=aiq g1
     have hk:x.1=k:=by omega
     have hkj:k<j:=by simp only at g3; omega
     have hnb:((Ŷ ops.toList []).getD j 0).testBit k=false:=by
      cases hb:((Ŷ ops.toList []).getD j 0).testBit k with
      |false=>rfl
      | true =>
        exfalso
        have hl:=hbit k hb
        simp only[Bool.not_eq_true'] at g2
        rw[getD_tf hsz (by omega),hk,hl] at g2
        cases g2
     have hnb2:((Ŷ ops.toList []).getD k 0).testBit j=false:=by
      cases hb:((Ŷ ops.toList []).getD k 0).testBit j with
      |false=>rfl
      |true=>have:=bef_lt hback k j hb; omega
     have:=apf hdr j o hol k x.2.2 (by omega) h1
     rw[Nat.zero_add,hnb] at this
     rw[←hk] at h1 hnb hnb2
     exact aSx (this.resolve_right (by simp)) h1 hol hnb hnb2)
     (fun _ _=>rfl)
     (fun hal=>(hdead _ hmemj hal).2)
     (fun x hx h1 h2=>hne x (by rw[f1]; simp[hx]) (fun he=>by
      have:=(f3 x hx).2.2
      rw[he] at this
      simp at this) h1 h2)
     (fun x hx h1 y hy hmem=>VR.refs2 H.heap (ň H y) _ hmem ((hdead x (by rw[f1]; simp[hx]) h1).2)) (fun _ _ _ _ _=>.inl rfl) e
    simp only[aTf,aAg] at e'
    split at e'<;>try (cases e'; done)
    refine aBU hE.call hE.plain hE.clone hg hp ho H (fun hal=>hdead _ hmemj hal) e' fun ν' w' u v S' g1 g2 g3 g4 g5 g6 g7=>?_
    have hrem:((ag8 E.clone ops.toList 0 base).filter fun x=>!(listed.setIfInBounds j true).getD x.1 true)=as++rest:=f2
    have hin:∀x∈as++rest,x∈(ag8 E.clone ops.toList 0 base).filter fun x=>!listed.getD x.1 true:=fun x hx=>by
     rw[f1]
     rcases List.mem_append.1 hx with hx|hx<;>simp[hx]
    have hnj:∀x∈as++rest,x≠(j,n,o):=fun x hx he=>by
     rw[←hrem,List.mem_filter] at hx
     rw[he] at hx
     have hlt:j<listed.size:=by omega
     simp[hlt] at hx
    have hm':m≤S'.h.length:=Nat.le_trans hm g4
    refine ih (listed.setIfInBounds j true) ((j,atd E ops.toList o S)::acc) {t:=ė S'.t o.dst v,h:=S'.h} _ ν' w' (by simpa using hsz) (fun j' i h1 h2=>?_) ?_ ?_ (fun x hx hal=>?_) hm' ?_ fun ν'' S'' a'' w'' q1 q2 q3 q4 q5=>hQ ν'' S'' a'' w'' q1 ((g3.mono hm).trans q2 (Nat.le_refl _)) q3 (fun i hi hdi=>q4 i hi ?_) q5
    ·by_cases hjj:j=j'
     ·subst hjj
      exact getD_set_true (hbit i h2)
     ·rw[getD_set_ne false hjj] at h1
      exact getD_set_true (hcl j' i h1 h2)
    ·rw[hrem]
     rw[f1] at hlen
     simp only[List.length_append,List.length_cons] at hlen ⊢
     omega
    ·rw[g6]
     exact H.put g3 g2 o.dst g1
    ·rw[hrem] at hx
     obtain⟨h1,h2⟩:=hdead x (hin x hx) hal
     refine⟨by simp only; omega,g5 _ h1 ?_ h2⟩
     by_cases hob:ċ E.clone o.op=true
     ·exact .inl (hne x (hin x hx) (hnj x hx) hal hob)
     ·exact .inr (by simpa using hob)
    ·rw[hrem]
     exact g7
    ·refine g5 i (by omega) ?_ hdi
     by_cases hob:ċ E.clone o.op=true
     ·left
      obtain⟨k,_,_,h3,_⟩:=aiq hn
      simp only at h3
      show i≠n
      omega
     ·exact .inr (by simpa using hob)
theorem atg {E:Env ρ} (hmix:E.P.follows .mixedOrders=true) (L:Nat) (call:List Nat→Bool→Nat→List AV→List Blk→(AV→List Blk→Option ρ)→Option ρ) (hE:afG E L call):afS E L call:=by
 intro fid rid path ops S a K r m ν w hp e H hm
 unfold aB6 at e
 split at e<;>try (cases e; done)
 rename_i hg
 simp only[Bool.true_and,Bool.or_eq_false_iff,Bool.not_eq_false'] at hg
 apply wpIn_region_any hmix
 have hpre:=fun id=>aMq S.h (adn E.clone ops.toList) id
 have H1:Sim ν {t:=S.t,h:=S.h++List.replicate (adn E.clone ops.toList) .dead} a {w with drawn:=w.drawn+1}:=H.same hpre rfl rfl rfl rfl
 have ev0:Ev m ν S.h w ν (S.h++List.replicate (adn E.clone ops.toList) .dead) {w with drawn:=w.drawn+1}:=Ev.same (w:=w) (w':={w with drawn:=w.drawn+1}) hpre rfl rfl rfl rfl m
 have hall:((ag8 E.clone ops.toList 0 S.h.length).filter fun x=>!(Array.replicate ops.size false).getD x.1 true)=ag8 E.clone ops.toList 0 S.h.length:=by
  rw[List.filter_eq_self]
  intro x hx
  obtain⟨k,h1,h2,_⟩:=aiq hx
  have hlt:k<ops.size:=by
   have:=(List.getElem?_eq_some_iff.1 h1).1
   simpa using this
  have:x.1=k:=by omega
  simp[this,hlt]
 have hlen:∀(os:List Oper) (i nid:Nat),(ag8 E.clone os i nid).length=os.length:=by
  intro os
  induction os with
  |nil=>intros; rfl
  |cons o os ih=>intro i nid; simp[ag8,ih]
 refine aZQ (fid:=fid) (base:=S.h.length) (K:=K .normal) (r:=r) hE hp hg.2 hg.1 hm ops.size _ [] {t:=S.t,h:=S.h++List.replicate (adn E.clone ops.toList) .dead} a ν _ (by simp) (fun j i h1 _=>?_) ?_ H1 (fun x hx hal=>?_) ?_ ?_ fun ν' S' a' w' g1 g2 g3 g4 g5=>⟨ν',S',g1,ev0.trans g2 (Nat.le_refl _),g3,fun j hj hd=>g4 j hj (by simp only[hpre]; exact hd),g5⟩
 ·exfalso
  rcases Nat.lt_or_ge j ops.size with h|h
  ·simp[h] at h1
  ·simp[h] at h1
 ·rw[hall,hlen]; simp
 ·rw[hall] at hx
  obtain⟨k,_,_,h3,h4⟩:=aiq hx
  have:=h4 hal
  refine⟨by simp; omega,?_⟩
  simp only[hpre]
  exact aI4 _ _ h3
 ·simp; omega
 ·rw[hall,←aOf]
  exact e
end
end Go.Am
end
noncomputable section
namespace Go.Am
variable [ò]
section
variable {ρ:Type} {ν ν':Nat→Value} {h h':List Blk} {w w':World} {P:Program}
structure Þ (ρ:Type) where
 path:List Nat
 fid:Nat
 bid:Nat
 L:È
 bF:Val (tyL L.cs)→Val (tyL L.vs)→(Val (tyL L.vs)→Option ρ)→((i:Nat)→Val (tyL (L.zs i))→Option ρ)→Option ρ
def eqL:List Nat→List Nat→Bool
 |[],[]=>true
 |a::l,b::m=>Nat.beq a b&&eqL l m
 |_,_=>false
def aXy:List (Þ ρ)→List Nat→Nat→Nat→Option (Þ ρ)
 |[],_,_,_=>none
 | x :: l, path, fid, bid => match Nat.beq x.bid bid && (Nat.beq x.fid fid && eqL x.path path) with
   |true=>some x
   |false=>aXy l path fid bid
def ahy (tab:List (Þ ρ)) (path:List Nat) (fid bid m:Nat) (S:St) (K:Exit→St→Option ρ):Option ρ :=
 match aXy tab path fid bid with
 |some x=>aQ9 x.L x.bF m S K
 |none=>none
structure JEnt where
 path:List Nat
 fid:Nat
 rid:Nat
 pin:Nat
 tpl:Tpl
 vs:List Ty
def aVc:List (Nat×Ö)→Nat→Option Ö
 |[],_=>none
 | x :: l, f => match Nat.beq x.1 f with
   |true=>some x.2
   |false=>aVc l f
def ayr:List (Nat×Nat)→Nat→Option Nat
 |[],_=>none
 | x :: l, s => match Nat.beq x.1 s with
   |true=>some x.2
   |false=>ayr l s
def ajN (P:Program) (f:Nat):Option Code :=
 match P.funcs[f]? with
 |some fn=>fn.body
 |none=>none
structure Þ.Ok (E:Env ρ) (x:Þ ρ):Prop where
 one:(((ajN E.P x.fid).elim [] (ê 0)).filter fun y=>Nat.beq y.1 x.bid).length=1
 law:∀p v kn kx,goC E (aeE E (10-x.path.length / 2)) x.fid x.path x.L.pin x.bid (az2 (ajN E.P x.fid) x.bid) (adS x.L.head x.L.cs x.L.vs p v) (aNu x.L kn kx)=x.bF p v (kn p) (fun i=>kx i p)
omit [ò] in
theorem aXB:∀{l m:List Nat},eqL l m=true→l=m
 |[],[],_=>rfl
 | a :: l, b :: m, h => by
   simp only[eqL,Bool.and_eq_true] at h
   rw[Nat.eq_of_beq_eq_true h.1,aXB h.2]
 |[],_::_,h=>by cases h
 |_::_,[],h=>by cases h
omit [ò] in
theorem aJn:∀{tab:List (Þ ρ)} {path:List Nat} {fid bid:Nat} {x:Þ ρ},aXy tab path fid bid=some x→x∈tab∧x.path=path∧x.fid=fid∧x.bid=bid
 |[],_,_,_,_,h=>by cases h
 | y :: tab, path, fid, bid, x, h => by
   unfold aXy at h
   split at h
   ·rename_i hb
    simp only[Bool.and_eq_true] at hb
    cases h
    exact⟨by simp,aXB hb.2.2,Nat.eq_of_beq_eq_true hb.2.1,Nat.eq_of_beq_eq_true hb.1⟩
   ·obtain⟨h1,h2⟩:=aJn h
    exact⟨by simp[h1],h2⟩
omit [ò] in
theorem aJm:∀{tab:List (Nat×Ö)} {f:Nat} {p:Ö},aVc tab f=some p→(f,p)∈tab
 |[],_,_,h=>by cases h
 | y :: tab, f, p, h => by
   unfold aVc at h
   split at h
   ·rename_i hb
    cases h
    rw[←Nat.eq_of_beq_eq_true hb]; simp
   ·exact List.mem_cons_of_mem _ (aJm h)
omit [ò] in
theorem ads:∀(c:Code) (b0:Nat) {bid:Nat} {b:Code},(bid,b)∈ê b0 c→∀y∈ê bid b,y∈ê b0 c
 | .seq c d, b0, bid, b, h, y, hy => by
   simp only[ê,List.mem_append] at h ⊢
   exact h.imp (fun h=>ads c b0 h y hy) (fun h=>ads d b0 h y hy)
 | .cond _ c d, b0, bid, b, h, y, hy => by
   simp only[ê,List.mem_append] at h ⊢
   exact h.imp (fun h=>ads c b0 h y hy) (fun h=>ads d b0 h y hy)
 | .block id c, b0, bid, b, h, y, hy => by
   simp only[ê] at h ⊢
   exact ads c id h y hy
 | .loop c, b0, bid, b, h, y, hy => by
   simp only[ê,List.mem_cons,Prod.mk.injEq] at h ⊢
   rcases h with⟨rfl,rfl⟩|h
   ·exact .inr hy
   ·exact .inr (ads c b0 h y hy)
 |.skip,_,_,_,h,_,_=>by cases h
 |.region ..,_,_,_,h,_,_=>by cases h
 |.exit _,_,_,_,h,_,_=>by cases h
 |.ret,_,_,_,h,_,_=>by cases h
 |.label _,_,_,_,h,_,_=>by cases h
 |.goto _,_,_,_,h,_,_=>by cases h
 |.rangeFunc ..,_,_,_,h,_,_=>by cases h
 | .scope c, b0, bid, b, h, y, hy => by
   simp only[ê] at h ⊢
   exact ads c b0 h y hy
 |.refuse _,_,_,_,h,_,_=>by cases h
omit [ò] in
theorem adj:∀(c:Code) (b0:Nat) {bid:Nat} {b:Code},(bid,b)∈ê b0 c→SizeOf.sizeOf b<SizeOf.sizeOf c
 | .seq c d, b0, bid, b, h => by
   simp only[ê,List.mem_append] at h
   rcases h with h|h
   ·have:=adj c b0 h; simp; omega
   ·have:=adj d b0 h; simp; omega
 | .cond _ c d, b0, bid, b, h => by
   simp only[ê,List.mem_append] at h
   rcases h with h|h
   ·have:=adj c b0 h; simp; omega
   ·have:=adj d b0 h; simp; omega
 | .block id c, b0, bid, b, h => by
   have:=adj c id h; simp; omega
 | .loop c, b0, bid, b, h => by
   simp only[ê,List.mem_cons,Prod.mk.injEq] at h
   rcases h with⟨rfl,rfl⟩|h
   ·simp
   ·have:=adj c b0 h; simp; omega
 |.skip,_,_,_,h=>by cases h
 |.region ..,_,_,_,h=>by cases h
 |.exit _,_,_,_,h=>by cases h
 |.ret,_,_,_,h=>by cases h
 |.label _,_,_,_,h=>by cases h
 |.goto _,_,_,_,h=>by cases h
 |.rangeFunc ..,_,_,_,h=>by cases h
 | .scope c, b0, bid, b, h => by
   have:=adj c b0 h; simp; omega
 |.refuse _,_,_,_,h=>by cases h
theorem av1 {E:Env ρ} {tab:List (Þ ρ)} (hE:E.loops=ahy tab) (hok:∀x∈tab,x.Ok E) {n:Nat} (hn:n≤10) (hEnv:afG E (22-2*n) (aeE E n)) (hD:afS E (22-2*n) (aeE E n))
 {path:List Nat} {f:Nat} {fn:Func} {c:Code} (hp:path.length+2=22-2*n) (hf:E.P.funcs[f]?=some fn) (hc:fn.body=some c):∀x∈ê 0 c,ahi E path f x.1 x.2:=by
 have hbody:ajN E.P f=some c:=by simp only[ajN,hf,hc]
 have key:∀(N:Nat) (x:Nat×Code),SizeOf.sizeOf x.2<N→x∈ê 0 c→ahi E path f x.1 x.2:=by
  intro N
  induction N with
  |zero=>intro x h; omega
  | succ N ih =>
    intro⟨bid,b⟩ hN hx
    have hin:∀y∈ê bid b,ahi E path f y.1 y.2:=fun y hy=>ih y (by have:=adj b bid (bid:=y.1) (b:=y.2) hy; simp only at hN; omega) (ads c 0 hx y hy)
    cases hfe:aXy tab path f bid with
    | none =>
      intro m S K r ν a w e
      rw[hE] at e
      simp only[ahy,hfe] at e
      cases e
    | some x =>
      obtain⟨h1,h2,h3,h4⟩:=aJn hfe
      obtain⟨hone,hlaw⟩:=hok x h1
      subst h3 h4
      rw[hbody] at hone hlaw
      simp only[Option.elim] at hone
      have hb:az2 (some c) x.bid=b:=by
       have hmem:(x.bid,b)∈(ê 0 c).filter fun y=>Nat.beq y.1 x.bid:=List.mem_filter.2 ⟨hx,by simp⟩
       obtain⟨z,hz⟩:=List.length_eq_one_iff.1 hone
       rw[hz,List.mem_singleton] at hmem
       unfold az2
       simp only
       cases hfd:(ê 0 c).find? fun y=>y.1==x.bid with
       | none =>
         have:=List.find?_eq_none.1 hfd _ hx
         simp at this
       | some y =>
         have hy1:=List.mem_of_find?_eq_some hfd
         have hy2:=List.find?_some hfd
         have:y∈(ê 0 c).filter fun y=>Nat.beq y.1 x.bid:=List.mem_filter.2 ⟨hy1,by simpa using hy2⟩
         rw[hz,List.mem_singleton] at this
         rw[this,←hmem]
      rw[hb] at hlaw
      have hd:10-x.path.length / 2=n:=by rw[h2]; omega
      rw[hd,h2] at hlaw
      rw[←h2] at hlaw ⊢
      refine aU2 atX hEnv hD (by rw[h2]; omega) (by rw[h2]; exact hin) x.L x.bF (fun m S K=>?_) (fun p v kn kx=>hlaw p v kn kx)
      rw[hE]
      simp only[ahy,h2,hfe]
 exact fun x hx=>key _ x (Nat.lt_succ_self _) hx
def aST (E:Env ρ):Prop:=∀n,n≤10→afG E (22-2*n) (aeE E n)→afS E (22-2*n) (aeE E n)→∀(path:List Nat) (f:Nat) (fn:Func) (c:Code),path.length+2=22-2*n→E.P.funcs[f]?=some fn→fn.body=some c→∀x∈ê 0 c,ahi E path f x.1 x.2
structure aYy where
 path:List Nat
 fid:Nat
 bid:Nat
 n:Nat
def aZJ:List aYy→List Nat→Nat→Nat→Option aYy
 |[],_,_,_=>none
 | x :: l, path, fid, bid => match Nat.beq x.bid bid && (Nat.beq x.fid fid && eqL x.path path) with
   |true=>some x
   |false=>aZJ l path fid bid
def aPK (E0:Env ρ) (us:List aYy) (path:List Nat) (fid bid m:Nat) (S:St) (K:Exit→St→Option ρ):Option ρ :=
 match aZJ us path fid bid with
 |some u=>aJI (fun S K=>goC E0 (aeE E0 (10-u.path.length / 2)) u.fid u.path m u.bid (az2 (ajN E0.P u.fid) u.bid) S K) u.n S K
 |none=>E0.loops path fid bid m S K
omit [ò] in
theorem aJl:∀{tab:List aYy} {path:List Nat} {fid bid:Nat} {x:aYy},aZJ tab path fid bid=some x→x∈tab∧x.path=path∧x.fid=fid∧x.bid=bid
 |[],_,_,_,_,h=>by cases h
 | y :: tab, path, fid, bid, x, h => by
   unfold aZJ at h
   split at h
   ·rename_i hb
    simp only[Bool.and_eq_true] at hb
    cases h
    exact⟨by simp,aXB hb.2.2,Nat.eq_of_beq_eq_true hb.2.1,Nat.eq_of_beq_eq_true hb.1⟩
   ·obtain⟨h1,h2⟩:=aJl h
    exact⟨by simp[h1],h2⟩
theorem ayV {E:Env ρ} {call:List Nat→Bool→Nat→List AV→List Blk→(AV→List Blk→Option ρ)→Option ρ} {N:Nat} (hE:afG E N call) (hD:afS E N call) {fid bid m:Nat} {path:List Nat} (hpath:path.length+2=N) {b:Code}
 (hin:∀x∈ê bid b,ahi E path fid x.1 x.2) {K:Exit→St→Option ρ} {r:ρ} {h₀:List Blk} {ν₀:Nat→Value} {w₀:World}:∀(n:Nat) (S:St) (ν:Nat→Value) (a:Act) (w:World),aJI (fun S K=>goC E call fid path m bid b S K) n S K=some r→Sim ν S a w→m≤S.h.length→Ev m ν₀ h₀ w₀ ν S.h w→Dd m h₀ S.h →
  Code.roundsIn fen 0 E.P b (aVZ m ν₀ h₀ w₀ K r) n a w
 |0,S,ν,a,w,e,_,_,_,_=>by cases e
 | n + 1, S, ν, a, w, e, H, hm, ev, dd => by
   rw[roundsIn_succ]
   simp only[aJI] at e
   refine wpIn_mono (afx hE hD hpath b bid S _ ν a w hin e H hm) fun x a₂ w₂ ha=>?_
   obtain⟨ν₂,S₂,H2,ev2,hp2,dd2,hk⟩:=ha
   have ev12:=ev.trans ev2 (Nat.le_refl m)
   have dd12:=dd.trans dd2 (Nat.le_refl m)
   cases x with
   |normal=>exact ayV hE hD hpath hin n S₂ ν₂ a₂ w₂ hk H2 hp2 ev12 dd12
   |exit id=>exact⟨ν₂,S₂,H2,ev12,hp2,dd12,hk⟩
   |ret=>exact⟨ν₂,S₂,H2,ev12,hp2,dd12,hk⟩
   |goto l=>exact⟨ν₂,S₂,H2,ev12,hp2,dd12,hk⟩
   |panic ch=>exact⟨ν₂,S₂,H2,ev12,hp2,dd12,hk⟩
   |outgrown=>exact⟨ν₂,S₂,H2,ev12,hp2,dd12,hk⟩
theorem aW0 {c:Code} {bid:Nat} {b:Code} (hone:((ê 0 c).filter fun y=>Nat.beq y.1 bid).length=1) (hx:(bid,b)∈ê 0 c):az2 (some c) bid=b:=by
 have hmem:(bid,b)∈(ê 0 c).filter fun y=>Nat.beq y.1 bid:=List.mem_filter.2 ⟨hx,by simp⟩
 obtain⟨z,hz⟩:=List.length_eq_one_iff.1 hone
 rw[hz,List.mem_singleton] at hmem
 unfold az2
 simp only
 cases hfd:(ê 0 c).find? fun y=>y.1==bid with
 | none =>
   have:=List.find?_eq_none.1 hfd _ hx
   simp at this
 | some y =>
   have hy1:=List.mem_of_find?_eq_some hfd
   have hy2:=List.find?_some hfd
   have:y∈(ê 0 c).filter fun y=>Nat.beq y.1 bid:=List.mem_filter.2 ⟨hy1,by simpa using hy2⟩
   rw[hz,List.mem_singleton] at this
   rw[this,←hmem]
theorem aW2 {E E0:Env ρ} (hD0:Flat) (hlib0:aBg E0) (hP:E0.P=E.P) (hmix:E0.P.follows .mixedOrders=true) (hl0:aST E0) {us:List aYy} (hE:E.loops=aPK E0 us)
 (hone:∀u∈us,(((ajN E.P u.fid).elim [] (ê 0)).filter fun y=>Nat.beq y.1 u.bid).length=1) {n:Nat} (hn:n≤10)
 {path:List Nat} {f:Nat} {fn:Func} {c:Code} (hp:path.length+2=22-2*n) (hf:E.P.funcs[f]?=some fn) (hc:fn.body=some c):∀x∈ê 0 c,ahi E path f x.1 x.2:=by
 have hdraw:∀L call,afG E0 L call→afS E0 L call:=atg hmix
 have hcall:=agh (.inl hD0) hlib0 hdraw (fun n hn hEnv=>hl0 n hn hEnv (hdraw _ _ hEnv)) n hn
 have hEnv:afG E0 (22-2*n) (aeE E0 n):=⟨by
  cases n with
  |zero=>exact .inl fun _ _ _ _ _ _=>rfl
  |succ n=>exact .inr (aiH n),hcall,hlib0.plain,hlib0.clone,hlib0.joins⟩
 have hin:=hl0 n hn hEnv (hdraw _ _ hEnv) path f fn c hp (hP▸hf) hc
 have hbody:ajN E.P f=some c:=by simp only[ajN,hf,hc]
 intro⟨bid,b⟩ hx m S K r ν a w e H hm
 rw[hE] at e
 unfold aPK at e
 split at e
 ·rename_i u hu
  obtain⟨h1,h2,h3,h4⟩:=aJl hu
  have hd:10-u.path.length / 2=n:=by rw[h2]; omega
  have h5:=hone u h1
  rw[h3,h4,hbody] at h5
  rw[hd,h2,h3,h4,hP,hbody,aW0 h5 hx] at e
  have:=ayV hEnv (hdraw _ _ hEnv) hp (fun y hy=>hin y (ads c 0 hx y hy)) u.n S ν a w e H hm (Ev.refl _ _ _ _) (Dd.refl _ _)
  rw[hP] at this
  exact wpIn_loop_rounds u.n this
 ·have:=hin (bid,b) hx m S K r ν a w e H hm
  rwa [hP] at this
theorem aKb (H:HR ν h w) {c:AV} {u:Value} (hu:VR1 ν h w c u):VRs w ò.G (þ h c) u:=atr H (fun b hb=>.inr hb) hu fun id b _ hl hb=>H.ghne id b hl hb
theorem aWu (H:HR ν h w) {id:Nat} {cs:List AV} (hl:lkB h id=.cells cs):(∀b,Ĭ (ν id)=some b→¬ò.G b)∧∀c∈cs,∀u,VR1 ν h w c u→VRs w ò.G (þ h c) u :=
 ⟨fun b hb=>H.ghne id b (by rw[hl]; rfl) hb,fun _ _ _ hu=>aKb H hu⟩
theorem Ė.up2:∀{as:List AV} {vs:List Value},Ė (Go.Am.VR2 ν h w) as vs→Ė (Go.Am.VR ν h w) as vs
 |[],[],_=>trivial
 |_::_,_::_,h=>⟨h.1.up,Ė.up2 h.2⟩
 |[],_::_,h=>h.elim
 |_::_,[],h=>h.elim
theorem aJR (H:HR ν h w):∀(l:List Ty) {x:Val (tyL l)} {v:AV} {u:Value},VR ν h w v u→Ă l h v=some x→RR w ò.G l x u
 |[],_,_,_,_,e=>by cases e
 |[t],x,v,u,hv,e=>aM2 H hv (fun _ _ _ hu=>aKb H hu) (fun _ _ _ hl=>aWu H hl) e
 | t :: u' :: l, x, v, u, hv, e => by
   cases v with
   | tup as =>
     obtain⟨us,rfl,h2⟩:=hv
     exact⟨us,rfl,aFO H (u'::l) t x as us.toList h2.up2 (fun _ _ _ _ _ hu=>aKb H hu) (fun _ _ _ _ _ hl=>aWu H hl) e⟩
   |_=>cases e
theorem AT.mono {G G':Nat→Prop} (hm:∀b,G' b→G b):∀{l:List Ty} {t:Ty} {x:Val (tys t l)} {vs:List Value},AT w G l t x vs→AT w G' l t x vs
 |[],t,x,vs,⟨v,h1,h2⟩=>⟨v,h1,h2.mono hm⟩
 |u::l,t,x,vs,⟨v,vs',h1,h2,h3⟩=>⟨v,vs',h1,h2.mono hm,AT.mono hm h3⟩
theorem AL.mono {G G':Nat→Prop} (hm:∀b,G' b→G b):∀{l:List Ty} {x:Val (tyL l)} {vs:List Value},AL w G l x vs→AL w G' l x vs
 |[],_,_,h=>h
 |_::_,_,_,h=>AT.mono hm h
theorem AL.VR:∀{l:List Ty} {x:Val (tyL l)} {vs:List Value},AL w (Av ν h) l x vs→Ė (VR ν h w) (ý l x) vs
 |[],_,_,h=>by cases h; trivial
 |_::_,_,_,h=>AT.VR h
end
omit [ò] in
theorem aTj {f:Nat} {p:Ö} (E:Env (Val (tyL p.rs))) (hlib:∀[ò],aBg E) (hmix:E.P.follows .mixedOrders=true) (hl:∀[ò],Flat→aST E) (law:aJU p E f):Î E.P f p:=by
 intro G x y hF w vals hG hAL
 letI:ò:=⟨G,[],none⟩
 have hL:=law x
 rw[hF] at hL
 unfold ă at hL
 have hdraw:∀L call,afG E L call→afS E L call:=atg hmix
 have hloops:=hl ⟨rfl,rfl⟩
 have hcall:=agh (.inl ⟨rfl,rfl⟩) hlib hdraw (fun n hn hE=>hloops n hn hE (hdraw _ _ hE)) 10 (Nat.le_refl _)
 have hEnv:afG E (22-2*10) (aeE E 10):=⟨.inr (aiH 9),hcall,hlib.plain,hlib.clone,hlib.joins⟩
 have H:HR (fun _=>undef) [] w:=⟨fun _=>trivial,fun _ _ _ h=>(by cases h),hG,fun _ _ h=>(by cases h)⟩
 have hav:∀b,Av (fun _=>undef) [] b→G b:=fun b hb=>hb.elim (fun⟨_,h,_⟩=>by cases h) id
 have hargs:Ė (VR (fun _=>undef) [] w) (ý p.ts x) vals:=AL.VR (hAL.mono hav)
 obtain⟨h1,h2⟩:=aFj hEnv (hdraw _ _ hEnv) (path:=[]) rfl ⟨rfl,rfl⟩ (fun fn c hf hc=>hloops 10 (Nat.le_refl _) hEnv (hdraw _ _ hEnv) [] f fn c rfl hf hc) hL H hargs
 refine⟨h1,h2.mono fun e w' hw=>?_⟩
 obtain⟨ν',h',v,u,rfl,g1,g2,g3,g4,g5,g6⟩:=hw
 refine⟨u,rfl,aJR g2 _ g1 g6,fun b hb=>(g3.keep b hb fun⟨_,h,_⟩=>by cases h).1,g3.size,g3.os,g3.tape,g3.output⟩
omit [ò] in
theorem Ç {f:Nat} {p:Ö} (E:Env (Val (tyL p.rs))) (hlib:∀[ò],aBg E) (hmix:E.P.follows .mixedOrders=true) {tab:List (Þ (Val (tyL p.rs)))} (hE:E.loops=ahy tab) (hok:∀x∈tab,x.Ok E) (law:aJU p E f):Î E.P f p :=
 aTj E hlib hmix (fun _ n hn hEnv hD path f fn c hp hf hc=>av1 hE hok hn hEnv hD hp hf hc) law
omit [ò] in
theorem aB7 {f:Nat} {p:Ö} (E E0:Env (Val (tyL p.rs))) (hlib:∀[ò],aBg E) (hlib0:∀[ò],aBg E0) (hP:E0.P=E.P) (hmix:E.P.follows .mixedOrders=true) {tab:List (Þ (Val (tyL p.rs)))} (h0:E0.loops=ahy tab) (hok:∀x∈tab,x.Ok E0) {us:List aYy} (hE:E.loops=aPK E0 us)
 (hone:∀u∈us,(((ajN E.P u.fid).elim [] (ê 0)).filter fun y=>Nat.beq y.1 u.bid).length=1) (law:aJU p E f):Î E.P f p :=
 aTj E hlib hmix (fun hD0 n hn _ _ path f fn c hp hf hc=>aW2 hD0 hlib0 hP (hP▸hmix) (fun n hn hEnv hD path f fn c hp hf hc=>av1 h0 hok hn hEnv hD hp hf hc) hE hone hn hp hf hc) law
omit [ò] in
theorem Å {p:Ö} {E:Env (Val (tyL p.rs))} {f:Nat} (h:∀x:Val (tyL p.ts),ă E f (ý p.ts x) (fun h v=>Â (Ă p.rs h v) some)=p.F x):aJU p E f:=fun x=>by
 rw[←h x]
 congr 1
 funext h v
 unfold Â
 cases Ă p.rs h v<;>rfl
omit [ò] in
theorem Æ {α:Type} {Q:α→Prop}:∀x∈([]:List α),Q x:=fun _ h=>by cases h
omit [ò] in
theorem Á {α:Type} {Q:α→Prop} {a:α} {l:List α} (h:Q a) (hl:∀x∈l,Q x):∀x∈a::l,Q x:=fun x hx=>by
 rcases List.mem_cons.1 hx with rfl|hx
 ·exact h
 ·exact hl x hx
end Go.Am
end
noncomputable section
namespace Go.Am
open Go.ChangeShapes Go.WideShapes Go.ChangeAt Go.RowKit
abbrev a1r:Nat→Prop:=fun _=>False
def Rng:(t:Ty)→Val t→Prop
 |.int .i64,n=>-9223372036854775808≤(n:Int)∧(n:Int)≤9223372036854775807
 |.pair a b,x=>Rng a (x:Val a×Val b).1∧Rng b (x:Val a×Val b).2
 |.slice t,l=>∀x∈(l:List (Val t)),Rng t x
 |_,_=>True
mutual
def aYU (P:Program):Nat→Ty→TypeId→Bool
 |0,_,_=>false
 | n + 1, τ, t =>
   match P.underlying t with
   | some .bool => match τ with
     |.bool=>true
     |_=>false
   | some (.int k) => match τ with
     |.int k'=>k==k'
     |_=>false
   | some .string => match τ with
     |.str=>true
     |_=>false
   | some (.slice e) => match τ with
     |.slice u=>aYU P n u e&&(Nat.beq (P.cellsOf e) u.size&&Nat.ble 1 u.size)
     |_=>false
   |some (.struct fs)=>Nat.beq (P.cellsOf t) τ.size&&(τ.isAgg&&fieldsAre P n τ 0 fs.toList)
   |_=>false
def fieldsAre (P:Program):Nat→Ty→Nat→List Field→Bool
 |0,_,_,_=>false
 |n+1,τ,off,[f]=>Nat.beq f.offset off&&(Nat.beq (P.cellsOf f.type) τ.size&&aYU P n τ f.type)
 |n+1,.pair a b,off,f::g::fs=>Nat.beq f.offset off&&(Nat.beq (P.cellsOf f.type) a.size&&(aYU P n a f.type&&fieldsAre P n b (off+a.size) (g::fs)))
 |_,_,_,_=>false
end
theorem aKj {α β:Type} {f:α→Option β}:∀{l:List α} {ys:List β},l.mapM f=some ys→∀a∈l,∃y,f a=some y
 |[],ys,_,a,ha=>by cases ha
 | b :: l, ys, h, a, ha => by
   rw[List.mapM_cons] at h
   cases hb:f b with
   |none=>rw[hb] at h; cases h
   | some y =>
     rw[hb] at h
     cases hl:l.mapM f with
     |none=>simp[hl] at h
     | some zs =>
       rcases List.mem_cons.1 ha with rfl|ha
       ·exact⟨y,hb⟩
       ·exact aKj hl a ha
theorem aFs {α:Type} {Q:Nat→α→Prop}:∀n:Nat,(∀i,i<n→∃x,Q i x)→∃xs:List α,xs.length=n∧∀i x,xs[i]?=some x→Q i x
 |0,_=>⟨[],rfl,fun i x h=>by simp at h⟩
 | n + 1, h => by
   obtain⟨xs,h1,h2⟩:=aFs n fun i hi=>h i (by omega)
   obtain⟨x,hx⟩:=h n (by omega)
   refine⟨xs++[x],by simp[h1],fun i y hy=>?_⟩
   rcases Nat.lt_or_ge i n with hi|hi
   ·rw[List.getElem?_append_left (by omega)] at hy; exact h2 i y hy
   ·rw[List.getElem?_append_right (by omega),h1] at hy
    have:i=n:=by
     rcases Nat.lt_or_ge 0 (i-n) with h0|h0
     ·rw[List.getElem?_eq_none (by simp; omega)] at hy; cases hy
     ·omega
    subst this
    simp at hy
    rw[←hy]; exact hx
section
variable {H:Type} {enc:TypeId×Value→H} {P:Program} {w:World} {sp:Nat→Bool} {held:Bool}
theorem aZ4 {base:Nat} {a:Addr} {n:Nat} {cs:List Value} (h:w.cells? base a n=some cs) (hs:a.spot=none):ľ w a.block a.off cs:=by
 obtain⟨_,hl,hc⟩:=World.cells?_some h
 intro j v hj
 have hjl:j<cs.length:=(List.getElem?_eq_some_iff.1 hj).1
 have:=hc j (by omega)
 rw[hj] at this
 rw[←this]
 congr 1
 obtain⟨b,o,s⟩:=a
 simp only at hs
 subst hs
 exact(add_plain b o j).symm
def aUm (enc:TypeId×Value→H) (P:Program) (w:World) (sp:Nat→Bool) (held:Bool) (n:Nat):Prop :=
 ∀(τ:Ty) (t:TypeId) (fuel:Nat) (cs:List Value) (d:DataW H) (ps:List MemPlace),aYU P n τ t=true→DataW.trod enc P w 0 sp held fuel t cs=some (d,ps)→∃x:Val τ,CR w a1r τ x cs∧Rng τ x
def aBN (enc:TypeId×Value→H) (P:Program) (w:World) (sp:Nat→Bool) (held:Bool) (n:Nat):Prop :=
 ∀(τ:Ty) (off:Nat) (fs:List Field) (fuel:Nat) (cs:List Value),fieldsAre P n τ off fs=true→(∀f∈fs,∃y,DataW.trod enc P w 0 sp held fuel f.type ((cs.drop f.offset).take (P.cellsOf f.type))=some y)→cs.length=off+τ.size→∃x:Val τ,CR w a1r τ x (cs.drop off)∧Rng τ x
set_option maxHeartbeats 1000000 in
theorem aV6 {n:Nat} (A:aUm enc P w sp held n) (B:aBN enc P w sp held n):aUm enc P w sp held (n+1):=by
 intro τ t fuel cs d ps h e
 cases fuel with
 |zero=>simp[DataW.trod] at e
 | succ fuel =>
   unfold aYU at h
   unfold DataW.trod at e
   split at h
   ·-- bool
    rename_i hu
    rw[hu] at e
    cases τ<;>try (cases h; done)
    rcases cs with _|⟨c,_|⟨c2,cs⟩⟩<;>try first|(cases e; done)|(simp at e; done)
    cases c<;>try (cases e; done)
    rename_i b
    exact⟨(show Val .bool from b),rfl,trivial⟩
   ·-- int
    rename_i k hu
    rw[hu] at e
    cases τ<;>try (cases h; done)
    rename_i k'
    have hk:k=k':=by simpa using h
    subst hk
    rcases cs with _|⟨c,_|⟨c2,cs⟩⟩<;>try first|(cases e; done)|(simp at e; done)
    cases c<;>try (cases e; done)
    rename_i k2 m
    simp only at e
    split at e<;>try (cases e; done)
    rename_i hc
    obtain⟨rfl,hwf⟩:=hc
    refine⟨(show Val (.int k2) from m),rfl,?_⟩
    cases k2<;>try trivial
    simp only[Lit.wf,Bool.and_eq_true,decide_eq_true_eq] at hwf
    exact hwf
   ·-- string
    rename_i hu
    rw[hu] at e
    cases τ<;>try (cases h; done)
    rcases cs with _|⟨c,_|⟨c2,cs⟩⟩<;>try first|(cases e; done)|(simp at e; done)
    cases c<;>try (cases e; done)
    rename_i s
    exact⟨(show Val .str from s),rfl,trivial⟩
   ·-- slice
    rename_i el hu
    rw[hu] at e
    cases τ<;>try (cases h; done)
    rename_i u
    simp only[Bool.and_eq_true] at h
    obtain⟨h1,h2,h3⟩:=h
    have hsz:P.cellsOf el=u.size:=Nat.eq_of_beq_eq_true h2
    have hpos:1≤u.size:=Nat.le_of_ble_eq_true h3
    rcases cs with _|⟨c,_|⟨c2,cs⟩⟩<;>try first|(cases e; done)|(simp at e; done)
    cases c<;>try (cases e; done)
    rename_i base len cap
    cases base with
    | none =>
      cases len<;>cases cap<;>try (cases e; done)
      exact⟨(show Val (.slice u) from[]),⟨none,0,rfl,Nat.le_refl _,.inl rfl⟩,fun x hx=>by cases hx⟩
    | some a =>
      simp only at e
      split at e<;>try (cases e; done)
      rename_i hb
      cases hm:(List.range len).mapM (fun i=>(w.cells? 0 (a.add (i*P.cellsOf el)) (P.cellsOf el)).bind (DataW.trod enc P w 0 sp held fuel el)) with
      |none=>rw[hm] at e; cases e
      | some a1y =>
        clear e
        have each:∀i,i<len→∃x:Val u,∃us,w.cells? 0 (a.add (i*P.cellsOf el)) (P.cellsOf el)=some us∧CR w a1r u x us∧Rng u x:=by
         intro i hi
         obtain⟨y,hy⟩:=aKj hm i (List.mem_range.2 hi)
         cases hc:w.cells? 0 (a.add (i*P.cellsOf el)) (P.cellsOf el) with
         |none=>rw[hc] at hy; cases hy
         | some us =>
           rw[hc] at hy
           obtain⟨d',ps'⟩:=y
           obtain⟨x,g1,g2⟩:=A u el fuel us d' ps' h1 hy
           exact⟨x,us,rfl,g1,g2⟩
        obtain⟨xs,hl,hx⟩:=aFs len each
        refine⟨(show Val (.slice u) from xs),⟨some a,cap,by rw[hl],by rw[hl]; exact hb.2.1,?_⟩,fun x hxm=>?_⟩
        ·rcases Nat.eq_zero_or_pos len with h0|h0
         ·left; exact List.length_eq_zero_iff.1 (by rw[hl,h0])
         ·right
          obtain⟨x0,us0,c0,_,_⟩:=each 0 h0
          have hblk:=World.cells?_block c0 (by omega)
          obtain⟨_,l0,g0⟩:=World.cells?_some c0
          have hspot:a.spot=none:=by
           have h5:=g0 0 (by omega)
           obtain⟨v0,hv0⟩:∃v0,us0[0]?=some v0:=⟨us0[0],List.getElem?_eq_getElem (by omega)⟩
           rw[hv0] at h5
           simpa[Addr.add] using World.cell?_spot h5
          obtain⟨b,o,s⟩:=a
          simp only at hspot
          subst hspot
          refine⟨b,o,rfl,id,by simpa[Addr.add] using hblk,fun i x hxi=>?_⟩
          obtain⟨us,q1,q2,_⟩:=hx i x hxi
          refine⟨us,q2,?_⟩
          rw[add_plain] at q1
          have:=aZ4 q1 rfl
          rw[hsz] at this
          exact this
        ·obtain⟨i,hi,rfl⟩:=List.mem_iff_getElem.1 hxm
         obtain⟨us,_,_,g⟩:=hx i _ (List.getElem?_eq_getElem hi)
         exact g
   ·-- struct
    rename_i fs hu
    rw[hu] at e
    simp only[Bool.and_eq_true] at h
    obtain⟨h1,_,h2⟩:=h
    have hsz:P.cellsOf t=τ.size:=Nat.eq_of_beq_eq_true h1
    simp only at e
    split at e<;>try (cases e; done)
    rename_i hlen
    cases hm:fs.toList.mapM (fun f=>DataW.trod enc P w 0 sp held fuel f.type ((cs.drop f.offset).take (P.cellsOf f.type))) with
    |none=>rw[hm] at e; cases e
    | some xs =>
      have:=B τ 0 fs.toList fuel cs h2 (aKj hm) (by omega)
      simpa using this
   ·cases h
theorem aSl {n:Nat} (A:aUm enc P w sp held n) (B:aBN enc P w sp held n):aBN enc P w sp held (n+1):=by
 intro τ off fs fuel cs h hf hlen
 rcases fs with _|⟨f,_|⟨g,fs⟩⟩
 ·simp[fieldsAre] at h
 ·unfold fieldsAre at h
  simp only[Bool.and_eq_true] at h
  obtain⟨h1,h2,h3⟩:=h
  obtain⟨⟨d,ps⟩,hy⟩:=hf f (by simp)
  rw[Nat.eq_of_beq_eq_true h1,Nat.eq_of_beq_eq_true h2,List.take_of_length_le (by rw[List.length_drop]; omega)] at hy
  exact A τ f.type fuel _ d ps h3 hy
 ·cases τ<;>try (simp[fieldsAre] at h; done)
  rename_i a b
  unfold fieldsAre at h
  simp only[Bool.and_eq_true] at h
  obtain⟨h1,h2,h3,h4⟩:=h
  obtain⟨⟨d,ps⟩,hy⟩:=hf f (by simp)
  rw[Nat.eq_of_beq_eq_true h1,Nat.eq_of_beq_eq_true h2] at hy
  obtain⟨x,q1,q2⟩:=A a f.type fuel _ d ps h3 hy
  simp only[Ty.size] at hlen
  obtain⟨y,q3,q4⟩:=B b (off+a.size) (g::fs) fuel cs h4 (fun f' hf'=>hf f' (by simp[hf'])) (by omega)
  refine⟨(show Val (.pair a b) from(x,y)),⟨_,_,?_,q1,q3⟩,q2,q4⟩
  rw[←List.drop_drop,List.take_append_drop]
theorem anw:∀n,aUm enc P w sp held n∧aBN enc P w sp held n
 |0=>⟨fun τ t fuel cs d ps h _=>by simp[aYU] at h,fun τ off fs fuel cs h _ _=>by simp[fieldsAre] at h⟩
 |n+1=>⟨aV6 (anw n).1 (anw n).2,aSl (anw n).1 (anw n).2⟩
theorem aS7 {n:Nat} {τ:Ty} {t:TypeId} {v:Value} {d:DataW H} {ps:List MemPlace} {r:Reach} {base:Nat} (ht:aYU P n τ t=true) (h:DataW.Trod enc P w 0 sp held t v d ps) (hv:Value.okWide P w r base t v):∃x:Val τ,afa w a1r τ x v∧Rng τ x:=by
 obtain⟨fuel,hf⟩:=h
 obtain⟨x,h1,h2⟩:=(anw n).1 τ t fuel _ d ps ht hf
 refine⟨x,⟨_,h1,?_⟩,h2⟩
 cases n with
 |zero=>simp[aYU] at ht
 | succ n =>
   unfold aYU at ht
   unfold Value.okWide at hv
   split at ht
   ·rename_i hu
    rw[hu] at hv
    cases τ<;>try (cases ht; done)
    simp only[Cell.okWide,hu] at hv
    cases v<;>simp_all[Cell.ok,Value.cells,ant,Ty.isAgg]
   ·rename_i k hu
    rw[hu] at hv
    cases τ<;>try (cases ht; done)
    simp only[Cell.okWide,hu] at hv
    cases v<;>simp_all[Cell.ok,Value.cells,ant,Ty.isAgg]
   ·rename_i hu
    rw[hu] at hv
    cases τ<;>try (cases ht; done)
    simp only[Cell.okWide,hu] at hv
    cases v<;>simp_all[Cell.ok,Value.cells,ant,Ty.isAgg]
   ·rename_i el hu
    rw[hu] at hv
    cases τ<;>try (cases ht; done)
    simp only[Cell.okWide,hu] at hv
    cases v<;>simp_all[Cell.ok,Value.cells,ant,Ty.isAgg]
   ·rename_i fs hu
    rw[hu] at hv
    obtain⟨cs,rfl,_,_⟩:=hv
    simp only[Bool.and_eq_true] at ht
    have hagg:τ.isAgg=true:=ht.2.1
    simp[ant,hagg,Value.cells]
   ·cases ht
def aqy (P:Program):List Ty→List TypeId→Bool
 |[],[]=>true
 |τ::l,t::ts=>aYU P 40 τ t&&aqy P l ts
 |_,_=>false
theorem aS8 {r:Reach} {base:Nat}:∀(l:List Ty) (τ:Ty) (t:TypeId) (ts:List TypeId) (v:Value) (vs:List Value) (ds:List (DataW H)) (ps:List MemPlace),aqy P (τ::l) (t::ts)=true→DataW.TrodAll enc P w 0 sp held (t::ts) (v::vs) ds ps →
 (∀(j:Nat) t' v',(t::ts)[j]?=some t'→(v::vs)[j]?=some v'→Value.okWide P w r base t' v')→∃x:Val (tys τ l),AT w a1r l τ x (v::vs)∧Rng (tys τ l) x
 |l,τ,t,ts,v,vs,[],ps,_,h,_=>by cases h
 | [], τ, t, ts, v, vs, d :: ds, ps, hs, h, hv => by
   obtain⟨p,q,h1,h2,_⟩:=h
   simp only[aqy,Bool.and_eq_true] at hs
   have:ts=[]:=by cases ts with|nil=>rfl|cons=>simp[aqy] at hs
   subst this
   have hvs:vs=[]:=by cases vs with|nil=>rfl|cons=>exact h2.elim
   subst hvs
   obtain⟨x,g1,g2⟩:=aS7 hs.1 h1 (hv 0 t v rfl rfl)
   exact⟨x,⟨v,rfl,g1⟩,g2⟩
 | u :: l, τ, t, ts, v, vs, d :: ds, ps, hs, h, hv => by
   obtain⟨p,q,h1,h2,_⟩:=h
   simp only[aqy,Bool.and_eq_true] at hs
   obtain⟨x,g1,g2⟩:=aS7 hs.1 h1 (hv 0 t v rfl rfl)
   rcases ts with _|⟨t2,ts⟩
   ·simp[aqy] at hs
   ·rcases vs with _|⟨v2,vs⟩
    ·exact h2.elim
    ·obtain⟨y,g3,g4⟩:=aS8 l u t2 ts v2 vs ds q hs.2 h2 fun j t' v' a b=>hv (j+1) t' v' (by simpa using a) (by simpa using b)
     exact⟨(show Val (.pair τ (tys u l)) from(x,y)),⟨v,v2::vs,rfl,g1,g3⟩,g2,g4⟩
theorem aY3 {r:Reach} {base:Nat} {l:List Ty} {ts:List TypeId} {vs:List Value} {ds:List (DataW H)} {ps:List MemPlace} (hs:aqy P l ts=true) (h:DataW.TrodAll enc P w 0 sp held ts vs ds ps)
 (hv:∀(j:Nat) t' v',ts[j]?=some t'→vs[j]?=some v'→Value.okWide P w r base t' v'):∃x:Val (tyL l),AL w a1r l x vs∧Rng (tyL l) x:=by
 rcases l with _|⟨τ,l⟩
 ·have:ts=[]:=by cases ts with|nil=>rfl|cons=>simp[aqy] at hs
  subst this
  have hvs:vs=[]:=by cases vs with|nil=>rfl|cons=>cases ds<;>exact h.elim
  exact⟨(show Val .unit from()),hvs,trivial⟩
 ·rcases ts with _|⟨t,ts⟩
  ·simp[aqy] at hs
  ·rcases vs with _|⟨v,vs⟩
   ·cases ds<;>exact h.elim
   ·exact aS8 l τ t ts v vs ds ps hs h hv
theorem atn (hl:laidOutB P=true) {W W':World} (hb:Below W.heap.size W W'):∀{ts:List TypeId} {vs:List Value} {ds:List (DataW H)} {ps:List MemPlace},(ts.all fun t=>P.readableRec t&&decide (t<P.types.size))=true→DataW.TrodAll enc P W 0 (fun _=>true) true ts vs ds ps→(∀x∈ps,x.block<W.heap.size) →
 DataW.TrodAll enc P W' 0 (fun b=>decide (b<W.heap.size)) true ts vs ds ps
 |[],[],[],ps,_,h,_=>h
 | t :: ts, v :: vs, d :: ds, ps, hr, h, hlt => by
   obtain⟨p,q,h1,h2,rfl⟩:=h
   simp only[List.all_cons,Bool.and_eq_true,decide_eq_true_eq] at hr
   exact⟨p,q,Below.trod hl hr.1.1 hr.1.2 h1 hb (fun x hx=>hlt x (List.mem_append_left _ hx)),atn hl hb (by simpa using hr.2) h2 (fun x hx=>hlt x (List.mem_append_right _ hx)),rfl⟩
 |[],[],_::_,_,_,h,_=>h.elim
 |[],_::_,_,_,_,h,_=>by cases ‹List (DataW H)›<;>exact h.elim
 |_::_,[],_,_,_,h,_=>by cases ‹List (DataW H)›<;>exact h.elim
 |_::_,_::_,[],_,_,h,_=>h.elim
theorem aBR {W:World}:∀{ts:List TypeId} {vs:List Value} {ds:List (DataW H)} {ps:List MemPlace},DataW.TrodAll enc P W 0 sp held ts vs ds ps→ds.length=ts.length
 |[],[],[],_,_=>rfl
 |_::_,_::_,_::_,_,h=>by obtain⟨p,q,_,h2,_⟩:=h; simp[aBR h2]
 |[],[],_::_,_,h=>h.elim
 |[],_::_,ds,_,h=>by cases ds<;>exact h.elim
 |_::_,[],ds,_,h=>by cases ds<;>exact h.elim
 |_::_,_::_,[],_,h=>h.elim
theorem law_lifted {C:Checked} {os:Os} {f:FuncId} {fn:Func} {s:ChangeSpec} {conds:List PathCond} {p:Ö} {tb:TypeId} (own:ownKnob C.prog.godebug=none) (started:os.Started) (noInit:C.prog.inits.idxOf? f=none) (hfn:C.prog.funcs[f]?=some fn)
 (witness:∃(w:World) (tape:Tape) (i:Input),w.os=os∧(w.forCall tape i).Shaped C.prog∧i.vars=[]∧Input.okWide C.prog (w.forCall tape i) .any w.heap.size f i ∧
  s.pre6 enc C.prog fn conds false (w.forCall tape i).memory i.args∧({}:Assume).holds C.prog (lone (Frame.enter C.prog f i.args .normal) [] (w.forCall tape i)))
 (hp:Î C.prog f p) (hrs:p.rs=[.bool]) (law:∀x:Val (tyL p.ts),Rng (tyL p.ts) x→p.F x=some (hrs▸(show Val (tyL [.bool]) from true))) (htys:aqy C.prog p.ts fn.params.toList=true) (hsv:s.vars=[])
 (hs:∀ds:List (DataW H),ds.length=fn.params.toList.length→s.fn H ds={results:=[.lit (.bool true)],args:=ds}) (hl:laidOutB C.prog=true) (hrd:(fn.params.toList.all fun t=>C.prog.readableRec t&&decide (t<C.prog.types.size))=true)
 (hres:fn.resultTypes=#[tb]) (hbool:C.prog.underlying tb=some .bool) :
 ReturnsInHanded {} C os f .any (s.pre6 enc C.prog fn conds false) (s.post enc C.prog fn false true false false):=by
 refine returnsInHanded_of_change own started noInit hfn witness ?_
 intro W base args ds gs before hval hW _ _
 have hW':=hW
 obtain⟨pa,q,hA,hV,rfl,_,_⟩:=hW
 have hgs:gs=[]∧q=[]:=by
  rw[hsv] at hV
  cases gs with
  |nil=>exact⟨rfl,hV⟩
  |cons=>exact hV.elim
 obtain⟨rfl,rfl⟩:=hgs
 obtain⟨x,h1,h2⟩:=aY3 htys hA (r:=.any) (base:=base) fun j t v ht hv=>hval j t v (by simpa using ht) (by simpa using hv)
 simp only[List.append_nil] at hW'
 have hlt:∀x∈pa,x.block<W.heap.size:=fun x hx=>by simpa using hW'.lt x hx
 refine(callsIn_wide (n:=0)).1 ((hp a1r x _ (law x h2) W args.toList (fun _ h=>h.elim) h1).2.mono fun e W' hw=>?_)
 obtain⟨u,rfl,k1,k2,k3,k4,k5,k6⟩:=hw
 have hu:u=.bool true:=by
  obtain⟨ts,rs,F⟩:=p
  dsimp only at hrs k1
  subst hrs
  obtain⟨us,c1,rfl⟩:=k1
  have:us=[.bool true]:=c1
  rw[this]; rfl
 subst hu
 have hb:Below W.heap.size W W':=⟨k4,k5,k6,k3,k2⟩
 have hds:s.fn H (ds++[])={results:=[.lit (.bool true)],args:=ds}:=by rw[List.append_nil]; exact hs ds (aBR hA)
 refine⟨_,rfl,ds,[],pa,[],pa,[],hW',?_,?_,?_,hb.frame _,fun h=>by cases h⟩
 ·rw[hds,hres]
  exact trodAll_mk1 (shut_bool hbool _)
 ·rw[hds]
  exact atn hl hb hrd hA hlt
 ·rw[hds,hsv]; rfl
end
theorem joined_of {P:Program} {f:FuncId} {fn:Func} {s:ChangeSpec} {c:OpenClaim} (h1:c.wf (OpenSpec.ofChange s)=true) (h2:laidOutB P=true) (h3:mapsRowed P=true) (h4:fn.params.all (P.readableRec ·)=true) (h5:namedTie P c.named s.vars=true)
 (h6:(c.stops==[])=true) (h7:(P.stops==[])=true) (h8:(c.knobs==[])=true) (h9:(P.stopKnobs==[])=true) (h10:(c.inPlace==P.inPlace f)=true) (h11:(c.unfollowed==P.unfollowed f)=true) (h12:(c.recurses==P.recurses f)=true) (h13:(c.named==P.varsNamed f)=true)
 (h14:(c.maps==(fn.params.toList++s.plain.varTypes P).any (P.mapsRec ·))=true) (h15:(c.ifaces==(fn.params.toList++s.plain.varTypes P).any (P.ifacesRec ·))=true) (h16:(c.mapsOut==P.mapsAmong fn.resultTypes.toList)=true)
 (h17:(c.loops==(fn.params.toList++s.plain.varTypes P).any (P.loopsFrom ·))=true) (h18:(c.wideKeys==(fn.params.toList++s.plain.varTypes P++fn.resultTypes.toList).any (P.wideKeysFrom ·))=true)
 (h19:s.vars.all (P.varReadable ·)=true) (h20:fn.resultTypes.all (fun t=>P.readableRec t&&decide (t<P.types.size))=true) (h21:(c.ifacesOut==fn.resultTypes.toList.any (P.ifacesRec ·))=true) (h22:(c.loopsOut==fn.resultTypes.toList.any (P.loopsFrom ·))=true)
 (h23:(c.plainKeys==P.plainKeys)=true) (h24:c.shortTexts.isNone=true) (h25:P.stopsHeard=true) (h26:P.mayEnter=true) (h27:(c.lifted==P.liftsFinal)=true) (h28:(P.make==some c.make)=true)
 (h29:(c.kinds==(if c.domain.isEmpty then[] else fn.params.toList.map fun t=>match P.underlying t with|some (.int k)=>some k|_=>none))=true) (h30:(c.pinned==c.pinnedBy)=true)
 (h31:(c.veiled==(fn.params.toList++s.plain.varTypes P++fn.resultTypes.toList).any (P.veiledRec ·))=true) (h32:c.veiledFits P fn.params.toList (fn.params.toList++s.plain.varTypes P++fn.resultTypes.toList)=true):joinedFacts P f fn s c=true:=by
 unfold joinedFacts
 simp only[h1,h2,h3,h4,h5,h6,h7,h8,h9,h10,h11,h12,h13,h14,h15,h16,h17,h18,h19,h20,h21,h22,h23,h24,h25,h26,h27,h28,h30,h31,h32,Bool.and_true]
 exact h29
end Go.Am
end