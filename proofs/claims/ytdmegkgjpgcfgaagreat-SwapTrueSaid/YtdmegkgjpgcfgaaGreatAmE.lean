/- lemmas -/
import Derived.Test.YtdmegkgjpgcfgaaGreatAmC
import Derived.Lib.SliceRun
import Derived.Test.YtdmegkgjpgcfgaaGreatAmB
import Derived.Test.YtdmegkgjpgcfgaaGreatAmA
set_option linter.all false
set_option linter.unusedSectionVars false
set_option linter.unusedVariables false
set_option linter.unusedSimpArgs false
noncomputable section
namespace Go.Am
variable [Ghost]
section
variable {ρ:Type} {ν:Nat→Value} {h:List Blk} {w:World} {P:Program}
omit [Ghost] in
def Ag (w:World) (t e:TypeId) (ie:TypeInfo) (z:Value) (hu:P.underlying t=some (.slice e)) (hie:P.info? e=some ie) (hz:ie.zero=some z) :
 (Instr.buildSlice t 0 #[]).run P w=.ok (.slice (some ⟨w.heap.size,0,none⟩) 0 0) (w.alloc (.cells #[] e)):=by
 simp[Instr.buildSlice,run_underlying hu,sizeOf,typeInfo,zeroValue,hie,hz,newRow,Instr.fill];rw[Array.eq_empty_of_size_eq_zero (xs:=Array.map (fun _=>(default:Value)) (Array.range 0)) (by simp)]
def acF (H:HR ν h w) (T ty:TypeId) {e:TypeId} {i:TypeInfo} {z:Value} (ht:P.underlying T=some (.slice e)) (hi:P.info? e=some i) (hz:i.zero=some z) {ety:Ty} (hsz:i.size=ety.size) (hpos:0<ety.size)
 (hby:i.bytes≤32768) (hzs:z.cells.size=ety.size) {nid:Nat} (hid:nid<h.length) (hd:lkB h nid=.dead) {ys:List (Val ety)} {a:Addr} {cy:Nat} (hy:SR w (Av ν h) ety ys (some a) cy) (hlen:ys.length≤4294967296) :
 ∃b cap w2,(Builtin.append_ #[T,T] ty #[.slice (some ⟨w.heap.size,0,none⟩) 0 0,.slice (some a) ys.length cy]).run P (w.alloc (.cells #[] e))=.ok (.slice (some ⟨b,0,none⟩) ys.length cap) w2∧w.heap.size≤b ∧
  Ev h.length ν h w (ï ν nid (.slice (some ⟨b,0,none⟩) ys.length cap)) (ð h nid (.row ety 0 false ys)) w2∧HR (ï ν nid (.slice (some ⟨b,0,none⟩) ys.length cap)) (ð h nid (.row ety 0 false ys)) w2 ∧
  (∀k,k<w.heap.size→w2.heap[k]?=w.heap[k]?)∧w.heap.size≤w2.heap.size∧w2.os=w.os∧w2.tape=w.tape∧w2.output=w.output:=by
 have hnext:∀V,(lkB h nid).next ν (ï ν nid V) nid (.row ety 0 false ys):=fun V=>by rw[hd]; trivial
 have hpush:(w.alloc (.cells #[] e)).heap=w.heap.push (.cells #[] e (0,0)):=rfl
 have hk1:∀b,b<w.heap.size→(w.alloc (.cells #[] e)).heap[b]?=w.heap[b]?:=fun b hb=>by rw[hpush,eP]; simp[fD hb]
 obtain⟨ev1,H1⟩:=H.grow (w':=w.alloc (.cells #[] e)) hk1 (by simp) rfl rfl rfl h.length
 by_cases hy0:ys=[]
 ·subst hy0
  have hg:(w.alloc (.cells #[] e)).heap[w.heap.size]?=some (.cells #[] e (0,0)):=by rw[hpush]; simp
  have hrun:=oB (P:=P) (w:=w.alloc (.cells #[] e)) T ty e i ht hi (g:=w.heap.size) (o:=0) (sLen:=0) (sCap:=0) hg (some a) 0 cy [] (by simp) (fun _ _ j u hj=>by simp at hj) (fun _=>rfl) (fun u hu=>by cases hu) (by omega) (by simp)
  have hheap:((w.alloc (.cells #[] e)).setRow w.heap.size ((#[]:Array Value).toList.take (0+0*i.size)++[]++(#[]:Array Value).toList.drop (0+0*i.size+([]:List Value).length)).toArray).heap=w.heap.push (.cells #[] e (0,0)):=by
   apply Array.ext_getElem?
   intro k
   by_cases hk:k=w.heap.size
   ·subst hk;rw[setRow_heap _ _ _ _ _ _ hg]; simp
   ·rw[setRow_other _ _ _ _ hk,hpush]
  obtain⟨g1,g2⟩:=FW (w':=(w.alloc (.cells #[] e)).setRow w.heap.size ((#[]:Array Value).toList.take (0+0*i.size)++[]++(#[]:Array Value).toList.drop (0+0*i.size+([]:List Value).length)).toArray) H (cap':=0) (g':=0) (t:=ety) (xs':=[]) (news:=[]) hid hnext hheap rfl rfl rfl (by simp) (by simp) ⟨by simp,fun i x hi=>by simp at hi⟩ (fun j v hj=>by simp at hj);exact⟨w.heap.size,0,_,by simpa using hrun,cG _,g1,g2,fun k hk=>by rw[hheap,eP]; simp[fD hk],by rw[hheap]; simp,rfl,rfl,rfl⟩
 ·have hy1:SR (w.alloc (.cells #[] e)) (Av ν h) ety ys (some a) cy:=by
   refine⟨hy.1,hy.2.imp id ?_⟩;rintro⟨b,off,h1,h2,h3⟩;refine⟨b,off,h1,by simp; omega,fun i x hx=>?_⟩;obtain⟨us,h4,h5⟩:=h3 i x hx;exact⟨us,CR.keep ev1.keepA h4,h5.keep (hk1 b h2)⟩
  obtain⟨news,hn1,hn2,hn3,hn4,hn5⟩:=hy1.flat;have h0:0<ys.length:=d8.2 hy0
  have hbytes:ys.length*i.bytes≤140737488355328:=by
   have:=fZ hlen hby;omega
  have hrun:=run_append_grow (P:=P) (w.alloc (.cells #[] e)) T ty e i z ht hi hz ⟨w.heap.size,0,none⟩ 0 0 [] (by simp) (fun j v hj=>by simp at hj) a ys.length cy news (by rw[hsz]; exact hn1) (hn2 a rfl) (by omega) (by omega) (growslice_fits (by omega) (by simpa using hbytes));have hge:=grownCap_ge (w.alloc (.cells #[] e)) (0+ys.length) 0 e
  obtain⟨g1,g2⟩:=FW (w:=w.alloc (.cells #[] e)) (w':=(w.alloc (.cells #[] e)).drew.alloc (.cells (([]:List Value).toArray++news.toArray++Builtin.zeroCells z.cells (grownCap (w.alloc (.cells #[] e)) (0+ys.length) 0 e-(0+ys.length))) e))
   H1 (cap':=grownCap (w.alloc (.cells #[] e)) (0+ys.length) 0 e) (g':=0) (t:=ety) (xs':=ys) (news:=news) hid hnext rfl rfl rfl rfl (by simpa using hge) (by
    simp only[gR,eY,size_zeroCells,hzs,hn1,←dl];simp only[dZ,dw,←dl]
    apply dv; omega) ⟨hn1,hn5⟩ (fun j v hj=>by
     rw[←eD] at hj;have:=(eV.1 hj).1;simp only[gF,dS];rw[fB,if_pos this]
     exact hj)
  have hb:∀k,k<w.heap.size→((w.alloc (.cells #[] e)).drew.alloc (.cells (([]:List Value).toArray++news.toArray++Builtin.zeroCells z.cells (grownCap (w.alloc (.cells #[] e)) (0+ys.length) 0 e-(0+ys.length))) e)).heap[k]?=w.heap[k]?:=fun k hk=>by
   show(((w.alloc (.cells #[] e)).heap.push _))[k]?=_;rw[eP,if_neg (by simp; omega)];exact hk1 k hk
  exact⟨_,_,_,by simpa using hrun,by simp,ev1.trans g1 (cG _),g2,hb,by show w.heap.size≤((w.heap.push _).push _).size; simp; omega,rfl,rfl,rfl⟩
def aic (d:Nat) (o:Oper):Option Op:=match o.guard,o.dst with
 |none,some d'=>match Nat.beq d' d with
  |true=>some o.op
  |false=>none
 |_,_=>none
def aaP:Operand→Bool
 |.const (.slice none 0 0)=>true
 |_=>false
def WM (i:Nat):Operand→Bool
 |.tmp j=>Nat.beq j i
 |_=>false
def QI (d:Nat) (o:Oper):Bool:=match aic d o with
 |some (.assign x)=>aaP x
 |_=>false
def ab5 (d i:Nat) (o:Oper):Bool:=match aic d o with
 |some (.move x)=>WM i x
 |_=>false
def abq (d i:Nat) (o:Oper):Bool:=match aic d o with
 |some (.assign x)=>WM i x
 |_=>false
def ahw (T d i:Nat) (o:Oper):Bool:=match aic d o with
 |some (.binOp .eql t x y _)=>Nat.beq t T&&(WM i x&&aaP y)
 |_=>false
def TU (T d:Nat) (o:Oper):Bool:=match aic d o with
 |some (.buildSlice t 0 ps)=>Nat.beq t T&&ps.toList.isEmpty
 |_=>false
def T1 (T d i j:Nat) (o:Oper):Bool:=match aic d o with
 |some (.call ⟨.builtin .append,as,ts⟩)=>match as.toList,ts.toList with
  |[x,y],[t,u]=>WM i x&&(WM j y&&(Nat.beq t T&&Nat.beq u T))
  |_,_=>false
 |_=>false
def Hs (fn:Func) (T:Nat):Bool:=match fn.body with
 |some (.seq (.region _ a0 false) (.seq (.seq (.region _ a1 false) (.cond c (.seq (.region _ a2 false) .ret) .skip)) (.seq (.region _ a3 false) .ret))) =>
  match a0.toList,a1.toList,a2.toList,a3.toList with
  |[o0],[o1,o2],[o3],[o4,o5,o6,o7] =>
   WM 4 c&&(QI 2 o0&&(ab5 3 0 o1&&(ahw T 4 3 o2&&(QI 2 o3&&(TU T 5 o4&&(ab5 6 0 o5&&(T1 T 7 5 6 o6&&(abq 2 7 o7&&(Nat.beq fn.ntmps 8&&match fn.results.toList with
    |[.tmp r]=>Nat.beq r 2
    |_=>false)))))))))
  |_,_,_,_=>false
 |_=>false
omit [Ghost] in
def tC {d:Nat} {o:Oper} {op:Op} (hh:aic d o=some op):o.guard=none∧o.dst=some d∧o.op=op:=by
 unfold aic at hh
 split at hh<;>try (cases hh; done)
 rename_i d' h1 h2
 split at hh<;>try (cases hh; done)
 rename_i hb;cases hh;exact⟨h1,by rw[h2,cR hb],rfl⟩
omit [Ghost] in
def MH {x:Operand} (hh:aaP x=true):x=.const (.slice none 0 0):=by
 unfold aaP at hh; split at hh<;>first|rfl|cases hh
omit [Ghost] in
def pJ {i:Nat} {x:Operand} (hh:WM i x=true):x=.tmp i:=by
 unfold WM at hh; split at hh
 ·rw[cR hh]
 ·cases hh
omit [Ghost] in
def NB {d:Nat} {o:Oper} (hh:QI d o=true):o.guard=none∧o.dst=some d∧o.op=.assign (.const (.slice none 0 0)):=by
 unfold QI at hh; split at hh<;>try (cases hh; done)
 rename_i x hx;rw[MH hh] at hx; exact tC hx
omit [Ghost] in
def PS {d i:Nat} {o:Oper} (hh:ab5 d i o=true):o.guard=none∧o.dst=some d∧o.op=.move (.tmp i):=by
 unfold ab5 at hh; split at hh<;>try (cases hh; done)
 rename_i x hx;rw[pJ hh] at hx; exact tC hx
omit [Ghost] in
def ZI {d i:Nat} {o:Oper} (hh:abq d i o=true):o.guard=none∧o.dst=some d∧o.op=.assign (.tmp i):=by
 unfold abq at hh; split at hh<;>try (cases hh; done)
 rename_i x hx;rw[pJ hh] at hx; exact tC hx
omit [Ghost] in
def acy {T d i:Nat} {o:Oper} (hh:ahw T d i o=true):o.guard=none∧o.dst=some d∧∃u,o.op=.binOp .eql T (.tmp i) (.const (.slice none 0 0)) u:=by
 unfold ahw at hh; split at hh<;>try (cases hh; done)
 rename_i t x y u hx;simp only[cH] at hh;rw[cR hh.1,pJ hh.2.1,MH hh.2.2] at hx;obtain⟨h1,h2,h3⟩:=tC hx;exact⟨h1,h2,u,h3⟩
omit [Ghost] in
def Xp {T d:Nat} {o:Oper} (hh:TU T d o=true):o.guard=none∧o.dst=some d∧o.op=.buildSlice T 0 #[]:=by
 unfold TU at hh; split at hh<;>try (cases hh; done)
 rename_i t ps hx;simp only[cH] at hh
 have:ps=#[]:=by
  apply fh;simpa using hh.2
 rw[cR hh.1,this] at hx;exact tC hx
omit [Ghost] in
def Xt {T d i j:Nat} {o:Oper} (hh:T1 T d i j o=true):o.guard=none∧o.dst=some d∧o.op=.call ⟨.builtin .append,#[.tmp i,.tmp j],#[T,T]⟩:=by
 unfold T1 at hh; split at hh<;>try (cases hh; done)
 rename_i as ts hx
 split at hh<;>try (cases hh; done)
 rename_i x y t u h1 h2;simp only[cH] at hh;obtain⟨q1,q2,q3,q4⟩:=hh
 have ha:as=#[.tmp i,.tmp j]:=by
  apply fh; rw[h1,pJ q1,pJ q2]
 have hb:ts=#[T,T]:=by
  apply fh; rw[h2,cR q3,cR q4]
 rw[ha,hb] at hx;exact tC hx
omit [Ghost] in
def Ni {fn:Func} {T:Nat} (hh:Hs fn T=true):∃r0 r1 r2 r3 o0 o1 o2 o3 o4 o5 o6 o7,
 fn.body=some (.seq (.region r0 #[o0] false) (.seq (.seq (.region r1 #[o1,o2] false) (.cond (.tmp 4) (.seq (.region r2 #[o3] false) .ret) .skip)) (.seq (.region r3 #[o4,o5,o6,o7] false) .ret))) ∧
 QI 2 o0=true∧ab5 3 0 o1=true∧ahw T 4 3 o2=true∧QI 2 o3=true∧TU T 5 o4=true∧ab5 6 0 o5=true∧T1 T 7 5 6 o6=true∧abq 2 7 o7=true∧fn.ntmps=8∧fn.results=#[.tmp 2]:=by
 unfold Hs at hh
 split at hh<;>try (cases hh; done)
 rename_i r0 a0 r1 a1 c r2 a2 r3 a3 hb
 split at hh<;>try (cases hh; done)
 rename_i o0 o1 o2 o3 o4 o5 o6 o7 h0 h1 h2 h3;simp only[cH] at hh;obtain⟨k0,k1,k2,k3,k4,k5,k6,k7,k8,k9,k10⟩:=hh
 split at k10<;>try (cases k10; done)
 rename_i r hr;have e0:a0=#[o0]:=fh h0;have e1:a1=#[o1,o2]:=fh h1;have e2:a2=#[o3]:=fh h2;have e3:a3=#[o4,o5,o6,o7]:=fh h3
 have e4:fn.results=#[.tmp 2]:=by
  apply fh; rw[hr,cR k10]
 exact⟨r0,r1,r2,r3,o0,o1,o2,o3,o4,o5,o6,o7,by rw[hb,e0,e1,e2,e3,pJ k0],k1,k2,k3,k4,k5,k6,k7,k8,cR k9,e4⟩
omit [Ghost] in
def qY {ops:Array Oper} {i d:Nat} {o:Oper} {u:Value} {w':World} {a:Act} {next:Act→World→Prop} {Q:Exit→Act→World→Prop} (ho:ops[i]?=some o) (hg:o.guard=none) (hd:o.dst=some d)
 (hrun:(execOp a.eval o).run P w=.ok (.value u) w') (k:next (a.put (some d) u) w'):wpOpIn Fence.wide 0 P ops Q i next a w:=by
 unfold wpOpIn;rw[ho]
 have hw:Region.wanted o (yielded ops a.tmps)=true:=by simp[Region.wanted,hg]
 simp only[hw,if_true];refine⟨fun _ _=>trivial,?_⟩;rw[show Fence.wide.round=none from rfl,Oper.semAt_none,hrun];rw[←hd] at k;exact k
def sI {g T:Nat} {fn:Func} (hf:P.funcs[g]?=some fn) (hs:Hs fn T=true) (hp:fn.params[0]?=some T) {fz:Bool} {S S':St} {nid:Nat} {x v:AV}
 (e:zc P g fz S nid x (fun v S=>some (v,S))=some (v,S')) {u:Value} (H:HR ν S.h w) (hx:VR ν S.h w x u) (hn:nid<S.h.length) (hd:lkB S.h nid=.dead) :
 (∃fn c,P.funcs[g]?=some fn∧fn.body=some c) ∧
 CallsIn Fence.wide 0 P g #[u] w fun e w'=>∃ν' u',e=.returned u'∧VR ν' S'.h w' v u'∧HR ν' S'.h w'∧Ev S.h.length ν S.h w ν' S'.h w'∧S.h.length≤S'.h.length∧Ŗ nid S.h S'.h∧S'.t=S.t:=by
 obtain⟨r0,r1,r2,r3,o0,o1,o2,o3,o4,o5,o6,o7,hb,k0,k1,k2,k3,k4,k5,k6,k7,hnt,hres⟩:=Ni hs;refine⟨⟨fn,_,hf,hb⟩,?_⟩;unfold zc at e;rw[hf] at e;simp only[hp,Option.bind_some] at e
 split at e<;>try (cases e; done)
 rename_i el hel
 split at e<;>try (cases e; done)
 rename_i ety hety
 split at e<;>try (cases e; done)
 rename_i hrow;obtain⟨i,z,hi,hsz,hpos,hby,hz,hzs⟩:=kM hrow
 split at e<;>try (cases e; done)
 rename_i ys hys
 split at e<;>try (cases e; done)
 rename_i hok
 have hok:ys.length≤4294967296:=by simpa[ê] using hok
 obtain⟨by_,cy,rfl,hsr⟩:=ajx H hx hys;have ht:=jK hel;obtain⟨g0,d0,p0⟩:=NB k0;obtain⟨g1,d1,p1⟩:=PS k1;obtain⟨g2,d2,u2,p2⟩:=acy k2;obtain⟨g3,d3,p3⟩:=NB k3;obtain⟨g4,d4,p4⟩:=Xp k4;obtain⟨g5,d5,p5⟩:=PS k5;obtain⟨g6,d6,p6⟩:=Xt k6;obtain⟨g7,d7,p7⟩:=ZI k7;refine callsIn_of_wp hf hb trivial ?_;simp only[hnt,eY,cW,dZ,Nat.reduceAdd,Nat.reduceSub,Array.replicate_succ,Array.replicate_zero,List.push_toArray,gF,dS,ft]
 have fin:∀{a:Act} {w':World} {ν':Nat→Value} {u':Value},a.tmps.getD 2 undef=u'→a.defers=[]→VR ν' S'.h w' v u'→HR ν' S'.h w'→Ev S.h.length ν S.h w ν' S'.h w'→S.h.length≤S'.h.length→Ŗ nid S.h S'.h→S'.t=S.t →
  bodyPost P fn (fun e w'=>∃ν' u',e=.returned u'∧VR ν' S'.h w' v u'∧HR ν' S'.h w'∧Ev S.h.length ν S.h w ν' S'.h w'∧S.h.length≤S'.h.length∧Ŗ nid S.h S'.h∧S'.t=S.t) .ret a w':=by
  intro a w' ν' u' q1 q2 q3 q4 q5 q6 q7 q8;exact bodyPost_ret (v:=u') (by rw[results_tmp hres,q1]) q2 ⟨ν',u',rfl,q3,q4,q5,q6,q7,q8⟩
 refine wpIn_seq (wpIn_region ?_);rw[show List.range (#[o0]:Array Oper).size=[0] from rfl,wpOpsIn_cons];refine qY (o:=o0) (u:=.slice none 0 0) (w':=w) rfl g0 d0 (by unfold execOp; rw[p0]; rfl) ?_;refine wpIn_seq (wpIn_seq (wpIn_region ?_));rw[show List.range (#[o1,o2]:Array Oper).size=[0,1] from rfl,wpOpsIn_cons];refine qY (o:=o1) (u:=.slice by_ ys.length cy) (w':=w) rfl g1 d1 (by unfold execOp; rw[p1]; rfl) ?_;rw[wpOpsIn_cons]
 refine qY (o:=o2) (u:=.bool by_.isNone) (w':=w) rfl g2 d2 (by
  unfold execOp; rw[p2];have h1:=Lib.run_eql_slice_nil (P:=P) w T el by_ ys.length cy 0 0 ht
  have h2:(eqGuard .eql T (.tmp 3) (.const (.slice none 0 0)) (.slice by_ ys.length cy) (.slice none 0 0)).run P w=.ok () w:=by simp[eqGuard]
  show((do let u ←(do eqGuard .eql T (.tmp 3) (.const (.slice none 0 0)) (.slice by_ ys.length cy) (.slice none 0 0); binOp .eql T (.slice by_ ys.length cy) (.slice none 0 0)); pure (.value u)):Sem Next).run P w=_
  simp only[Sem.run_bind,h1,h2,Result.andThen_ok]; rfl) ?_
 cases by_ with
 |none =>
  have hy:ys=[]:=by
   rcases hsr.2 with hy|⟨b,off,hf,_⟩
   ·exact hy
   ·cases hf
  subst hy;refine wpIn_cond_true rfl (wpIn_seq (wpIn_region ?_));rw[show List.range (#[o3]:Array Oper).size=[0] from rfl,wpOpsIn_cons];refine qY (o:=o3) (u:=.slice none 0 0) (w':=w) rfl g3 d3 (by unfold execOp; rw[p3]; rfl) ?_;refine wpIn_ret ?_
  cases fz with
  |true =>
   cases e;exact fin (ν':=ν) (u':=.slice none 0 0) rfl rfl ⟨none,0,rfl,cG _,.inl rfl⟩ H (Ev.refl _ _ _ _) (cG _) (Ŗ.refl _ _) rfl
  |false =>
   cases e;obtain⟨ev,H2⟩:=QW (g':=0) (t:=ety) H hn (fun V=>by rw[hd]; trivial);exact fin rfl rfl (xN hn rfl) H2 ev (by rw[Ñ]; exact cG _) (Ŗ.upd _ (.inl rfl)) rfl
 |some a =>
  refine wpIn_cond_false rfl (wpIn_skip ?_);refine wpIn_seq (wpIn_region ?_);rw[show List.range (#[o4,o5,o6,o7]:Array Oper).size=[0,1,2,3] from rfl,wpOpsIn_cons]
  refine qY (o:=o4) (u:=.slice (some ⟨w.heap.size,0,none⟩) 0 0) (w':=w.alloc (.cells #[] el)) rfl g4 d4 (by
   unfold execOp; rw[p4];have:=Ag (P:=P) w T el i z ht hi hz
   simp only[List.map_toArray,fp,Sem.run_bind,this,Result.andThen_ok]; rfl) ?_
  rw[wpOpsIn_cons];refine qY (o:=o5) (u:=.slice (some a) ys.length cy) (w':=w.alloc (.cells #[] el)) rfl g5 d5 (by unfold execOp; rw[p5]; rfl) ?_;rw[wpOpsIn_cons];obtain⟨b,cap,w2,hrun,hge,ev,H2,hk,hz2,ho,htp,hout⟩:=acF (nid:=nid) H T o6.type ht hi hz hsz hpos hby hzs hn hd hsr hok
  refine qY (o:=o6) (u:=.slice (some ⟨b,0,none⟩) ys.length cap) (w':=w2) rfl g6 d6 (by
   rw[kF (S:=S) (f:=Builtin.append_) p6 (fun _ _=>rfl)];simp only[List.map_toArray,eE,fp]
   erw [Sem.run_bind,hrun]; rfl) ?_
  rw[wpOpsIn_cons];refine qY (o:=o7) (u:=.slice (some ⟨b,0,none⟩) ys.length cap) (w':=w2) rfl g7 d7 (by unfold execOp; rw[p7]; rfl) ?_;refine wpIn_ret ?_
  cases fz with
  |true =>
   cases e;obtain⟨ev2,H3⟩:=H.grow hk hz2 ho htp hout S.h.length;refine fin (ν':=ν) (u':=.slice (some ⟨b,0,none⟩) ys.length cap) (by simp[Act.put]) rfl ?_ H3 ev2 (cG _) (Ŗ.refl _ _) rfl;have hB:=H2.blk nid;rw[â _ hn] at hB;obtain⟨base,cap',q1,q2,q3⟩:=hB;rw[Ï] at q1;cases q1;refine⟨_,_,rfl,q2,?_⟩;rcases q3 with⟨q3,_⟩|⟨b',off,c,e',q4,q5,q6,q7⟩
   ·cases q3
   ·cases q4;refine .inr ⟨b,0,rfl,fun hf=>by have:=H.ltA hf; omega,ď q5,fun i x hi=>?_⟩;obtain⟨us,q8,q9⟩:=q7 i x hi;refine⟨us,q8.mono (fun k hk=>?_),q9⟩;rcases hk with⟨id,hk1,hk2⟩|hk
    ·have hne:id≠nid:=fun hf=>by rw[hf,hd] at hk1; cases hk1
     exact .inl ⟨id,by rw[Ó _ hne]; exact hk1,by rw[ė _ _ hne]; exact hk2⟩
    ·exact .inr hk
  |false =>
   cases e;exact fin (u':=.slice (some ⟨b,0,none⟩) ys.length cap) (by simp[Act.put]) rfl (xN hn rfl) H2 ev (by rw[Ñ]; exact cG _) (Ŗ.upd _ (.inl rfl)) rfl
end
end Go.Am
end

noncomputable section
namespace Go.Am
structure ac3 where
 ty:Ty
 ts:List Ty
 clo:Nat
 mt:Ty
 F:List (Val ty)→Val (tyL ts)→Val mt→Option (List (Val ty)×Val mt)
def Z9:List AV→Option (List AV×AV)
 |[]=>none
 |[a]=>some ([],a)
 |a::l=>match Z9 l with
  |some (m,b)=>some (a::m,b)
  |none=>none
section
variable {ρ:Type}
def rowX (r:ac3) (h:List Blk) (args:List AV) (K:AV→List Blk→Option ρ):Option ρ :=
 match args with
 |.own id g::as=>match Z9 as with
  |some (ds,.fn (.func c) [] [.box bid 0])=>match Nat.beq c r.clo&&!Nat.beq id bid with
   |true=>match lkB h id with
    |.row t g' false xs=>match g==g' with
     |true=>match decEq t r.ty with
      |isTrue e=>match lkB h bid with
       |.cells cs=>match cs.all fun a=>!CU a with
        |true=>match CS h r.ts ds with
         |some x=>match (Zn r.ts x).all plain with
          |true=>match Ú r.mt cs with
           |some m=>Ä (r.F (wE (F:=fun t=>List (Val t)) e xs) x m) fun z=>K (.tup []) (ð (ð h id (.row r.ty g' false z.1)) bid (.cells (flat r.mt z.2)))
           |none=>none
          |false=>none
         |none=>none
        |false=>none
       |_=>none
      |isFalse _=>none
     |false=>none
    |_=>none
   |false=>none
  |_=>none
 |_=>none
def BK (r:ac3) (x:Val (tyL r.ts)):List AV:=.own 0 0::(Zn r.ts x++[.fn (.func r.clo) [] [.box 1 0]])
def jT (r:ac3) (xs:List (Val r.ty)) (m:Val r.mt):List Blk:=[.row r.ty 0 false xs,.cells (flat r.mt m)]
def J8 (r:ac3) (K:List (Val r.ty)→Val r.mt→Option ρ) (v:AV) (h:List Blk):Option ρ :=
 match v with
 |.tup []=>match lkB h 0 with
  |.row t 0 false ys=>match decEq t r.ty with
   |isTrue e=>match lkB h 1 with
    |.cells cs=>match cs.all fun a=>!CU a with
     |true=>match Ú r.mt cs with
      |some m=>K (wE (F:=fun t=>List (Val t)) e ys) m
      |none=>none
     |false=>none
    |_=>none
   |isFalse _=>none
  |_=>none
 |_=>none
end
structure ah2 (P:Program) (f:Nat) (r:ac3):Prop where
 ok:∀(G:Nat→Prop) (xs:List (Val r.ty)) (x:Val (tyL r.ts)) (m:Val r.mt) (ys:List (Val r.ty)) (m2:Val r.mt),r.F xs x m=some (ys,m2) →
 ∀(ν:Nat→Value) (w:World) (vals:List Value),@HR (Gh G) ν (jT r xs m) w→ý (@VR (Gh G) ν (jT r xs m) w) (BK r x) vals →
  (∃fn c,P.funcs[f]?=some fn∧fn.body=some c)∧CallsIn Fence.wide 0 P f vals.toArray w fun e w'=>∃ν' h' v u,e=.returned u∧@VR (Gh G) ν' h' w' v u∧@HR (Gh G) ν' h' w'∧Ev 2 ν (jT r xs m) w ν' h' w'∧J8 r (fun zs m'=>some (zs,m')) v h'=some (ys,m2)
def QU {f:Nat} {r:ac3} (E:Env (List (Val r.ty)×Val r.mt)) (hlib:∀[Ghost],FH E) (hmix:E.P.follows .mixedOrders=true) {tab:List (à (List (Val r.ty)×Val r.mt))} (hE:E.loops=kD tab) (hok:∀x∈tab,x.Ok E)
 (law:∀xs x m,uU E (ŵ E 10) [] f (BK r x) (jT r xs m) (J8 r fun zs m'=>some (zs,m'))=r.F xs x m) (hR:E.ranges=Ν []:=by rfl):ah2 E.P f r:=by
 constructor;intro G xs x m ys m2 hF ν w vals H hargs
 letI g:Ghost:=Gh G
 have hL:=law xs x m;rw[hF] at hL;have hy:∀[Ghost],kh E:=FH.yld hlib;have hl:CV E:=JI hmix hE hok hR;have hall:∀n,n≤10→abB E n:=qE (fun _=>hlib) (fun L call hE=>m8 hmix L call hE) hl;have hEM:∀M,@md (g.re g.G [] none M) _ E 2 (ŵ E 10):=fun M=>@hall 10 (cG _) (g.re g.G [] none M) (@hy _);obtain⟨h1,h2⟩:=wC hEM (fun M=>@m8 (g.re g.G [] none M) _ _ hmix _ _ (hEM M)) (path:=[]) rfl (fun M fn c hf hc=>@hl 10 (cG _) (hall 10 (cG _)) (g.re g.G [] none M) (@hy _) [] f fn c rfl hf hc) hL H (dQ _) hargs;refine⟨h1,h2.mono fun e w' hw=>?_⟩;obtain⟨ν',h',v,u,rfl,g1,g2,g3,g4,g5,g6⟩:=hw;exact⟨ν',h',v,u,rfl,g1,g2,g3,g6⟩
section
variable [Ghost] {ρ:Type} {ν:Nat→Value} {h:List Blk} {w:World} {P:Program}
def J1:∀{l m:List AV} {b:AV},Z9 l=some (m,b)→l=m++[b]
 |[],_,_,e=>by cases e
 |[a],_,_,e=>by cases e; rfl
 |a::c::l,m,b,e=>by
  simp only[Z9] at e
  split at e<;>try (cases e; done)
  rename_i m' b' h1;cases e;rw[J1 h1];rfl
def QB (H:HR ν h w) {cs:List AV} (hd:(cs.all fun a=>!CU a)=true) {us:List Value} (hv:ý (VRc ν h w) cs us):ý (VRs w (Av ν h)) cs us :=
 ý.mono (fun _ _ hx=>VR1.data hx.1) hv
def AL.plainG {G G':Nat→Prop}:∀{l:List Ty} {x:Val (tyL l)} {vs:List Value},(Zn l x).all plain=true→AL w G l x vs→AL w G' l x vs
 |[],_,_,_,h=>h
 |_::_,_,_,hp,h=>AT.plain hp h
def ajt {f:Nat} {r:ac3} (hr:ah2 P f r):acY P f (rowX (ρ:=ρ) r):=by
 intro h args K res e ν w vals H hargs;unfold rowX at e
 split at e<;>try (cases e; done)
 rename_i id g as
 split at e<;>try (cases e; done)
 rename_i ds c bid hsp
 split at e<;>try (cases e; done)
 rename_i hcb;simp only[cH,ee] at hcb;obtain rfl:=cR hcb.1
 have hne:id≠bid:=fun q=>by rw[q,Nat.beq_refl] at hcb; exact absurd hcb.2 (by simp)
 split at e<;>try (cases e; done)
 rename_i t g' xs hl
 split at e<;>try (cases e; done)
 rename_i hg
 obtain rfl:g=g':=by simpa using hg
 split at e<;>try (cases e; done)
 rename_i hty _;subst hty
 split at e<;>try (cases e; done)
 rename_i cs hlb
 split at e<;>try (cases e; done)
 rename_i hcs
 split at e<;>try (cases e; done)
 rename_i x hx
 split at e<;>try (cases e; done)
 rename_i hpl
 split at e<;>try (cases e; done)
 rename_i m hm;simp only[Ä] at e
 split at e<;>try (cases e; done)
 rename_i z hys;obtain⟨ys,m2⟩:=z
 replace hys:r.F xs x m=some (ys,m2):=hys
 have has:=J1 hsp;subst has
 -- the arguments
 cases vals with
 |nil=>exact hargs.elim
 |cons u0 us =>
 obtain⟨hu0,hus⟩:=hargs;obtain⟨us1,us2,rfl,hds,hfn⟩:=hus.split;obtain⟨uf,rfl,huf⟩:=hfn.one
 have hu0':u0=ν id:=by
  obtain⟨_,t2,g2,fz2,xs2,hl2,_,hq⟩:=hu0;rw[hl] at hl2;cases hl2;exact hq rfl
 obtain⟨fs,cps,rfl,hfs,hcps⟩:=huf
 have hliveR:(lkB h id).live=true:=by rw[hl]; rfl
 have hliveB:(lkB h bid).live=true:=by rw[hlb]; rfl
 have hidl:id<h.length:=Ű hl (by simp);have hbl:bid<h.length:=Ű hlb (by simp);have hB:=H.blk id;rw[hl] at hB;have hC:=H.blk bid;rw[hlb] at hC
 -- the frame
 obtain⟨G',hG'⟩:∃G':Nat→Prop,G'=fun b=>Av ν h b∧¬Ļ (ν id) b∧¬Ļ (ν bid) b:=⟨_,rfl⟩
 obtain⟨ν0,hν0⟩:∃ν0:Nat→Value,ν0=fun n=>if n=0 then ν id else if n=1 then ν bid else undef:=⟨_,rfl⟩
 have n0:ν0 0=ν id:=by rw[hν0]; rfl
 have n1:ν0 1=ν bid:=by rw[hν0]; rfl
 have hAv:∀b,@Av (Gh G') ν0 (jT r xs m) b→Av ν h b:=by
  rintro b (⟨i,hi,ho⟩|hg)
  ·match i,hi,ho with
   |0,_,ho=>rw[n0] at ho; exact .inl ⟨id,hliveR,ho⟩
   |1,_,ho=>rw[n1] at ho; exact .inl ⟨bid,hliveB,ho⟩
   |i+2,hi,_=>cases hi
  ·have hg':G' b:=hg;rw[hG'] at hg';exact hg'.1
 obtain⟨bb,cb,eb,hc1,hc2,hc3⟩:=hC;have hcr:CR w (Av ν h) r.mt m cb.toList:=ğ hm (QB H hcs hc3);have hx0:AL w (fun _=>False) r.ts x us1:=FG H hds (fun a _ c _ u hu=>C6 H hu) (fun _ _ _ _ _ _=>⟨fun _ _ hf=>hf,fun c _ u hu=>C6 H hu⟩) (fun _ _ _ _ _ _ _ _ hf=>hf) hx;have hx1:AL w (@Av (Gh G') ν0 (jT r xs m)) r.ts x us1:=AL.plainG hpl hx0
 have H0:@HR (Gh G') ν0 (jT r xs m) w:=by
  refine @HR.mk (Gh G') _ _ _ (fun i=>?_) (fun i j b hi hj hbi hbj=>?_) (fun b hb=>?_) (fun i b hi hbi hg=>?_)
  ·match i with
   |0 =>
    obtain⟨base,cap,q1,q2,q3⟩:=hB;refine⟨base,cap,n0.trans q1,q2,q3.imp (fun z=>z) fun⟨b,off,c,e',q4,q5,q6,q7⟩=>⟨b,off,c,e',q4,q5,q6,fun i y hy=>?_⟩⟩;obtain⟨us,q8,q9⟩:=q7 i y hy;exact⟨us,CR.mono hAv q8,q9⟩
   |1=>exact⟨bb,cb,eb,n1.trans hc1,hc2,@lR (Gh G') ν0 (jT r xs m) w _ _ _ (CR.mono hAv hcr)⟩
   |i+2=>exact trivial
  ·match i,j,hi,hj,hbi,hbj with
   |0,0,_,_,_,_=>rfl
   |1,1,_,_,_,_=>rfl
   |0,1,_,_,hbi,hbj=>rw[n0] at hbi; rw[n1] at hbj; exact absurd (H.inj id bid b hliveR hliveB hbi hbj) hne
   |1,0,_,_,hbi,hbj=>rw[n1] at hbi; rw[n0] at hbj; exact absurd (H.inj id bid b hliveR hliveB hbj hbi) hne
   |i+2,_,hi,_,_,_=>cases hi
   |_,j+2,_,hj,_,_=>cases hj
  ·have hb':G' b:=hb;rw[hG'] at hb';exact H.ltA hb'.1
  ·have hg':G' b:=hg;rw[hG'] at hg'
   match i,hi,hbi with
   |0,_,hbi=>rw[n0] at hbi; exact hg'.2.1 hbi
   |1,_,hbi=>rw[n1] at hbi; exact hg'.2.2 hbi
   |i+2,hi,_=>cases hi
 have hargs0:ý (@VR (Gh G') ν0 (jT r xs m) w) (BK r x) (u0::(us1++[.func (.func r.clo) fs cps])):=by
  refine⟨⟨?_,r.ty,0,false,xs,rfl,cG _,fun _=>hu0'.trans n0.symm⟩,(@AL.VR (Gh G') ν0 (jT r xs m) w _ _ _ hx1).append ⟨⟨fs,cps,rfl,?_,?_⟩,trivial⟩⟩
  ·rw[hu0'];obtain⟨base,cap,q1,_⟩:=hB;rw[q1]; rfl
  ·rw[hfs.nil_left]; trivial
  ·obtain⟨uc,hu1,hu2⟩:=hcps.one;rw[hu1];refine⟨?_,trivial⟩;obtain⟨cs',b',q1,q2,q3⟩:=hu2;exact⟨flat r.mt m,b',rfl,n1.trans q2,q3⟩
 obtain⟨hbody,hcall⟩:=hr.ok G' xs x m ys m2 hys ν0 w _ H0 hargs0;refine⟨hbody,hcall.mono fun en w' hw=>?_⟩;obtain⟨ν',h',v,u,rfl,g1,g2,g3,g4⟩:=hw
 -- what the run leaves
 unfold J8 at g4
 split at g4<;>try (cases g4; done)
 split at g4<;>try (cases g4; done)
 rename_i t' ys' hl0
 split at g4<;>try (cases g4; done)
 rename_i hty' _;subst hty'
 split at g4<;>try (cases g4; done)
 rename_i cs' hl1
 split at g4<;>try (cases g4; done)
 rename_i hcs'
 split at g4<;>try (cases g4; done)
 rename_i m' hm';cases g4;have nx0:=g3.blk 0 (by omega);rw[show lkB (jT r xs m) 0=.row r.ty 0 false xs from rfl,hl0] at nx0;obtain⟨_,_,_,q1,_,q3⟩:=nx0;cases q1;obtain⟨v0,hylen⟩:=q3 rfl;have nx1:=g3.blk 1 (by omega);rw[show lkB (jT r xs m) 1=.cells (flat r.mt m) from rfl] at nx1;have v1:ν' 1=ν bid:=nx1.2.trans n1;rw[n0] at v0;have b0:=@HR.blk (Gh G') _ _ _ g2 0;rw[hl0] at b0;have b1:=@HR.blk (Gh G') _ _ _ g2 1;rw[hl1] at b1
 have lv0:(lkB h' 0).live=true:=by rw[hl0]; rfl
 have lv1:(lkB h' 1).live=true:=by rw[hl1]; rfl
 have nself:∀k,ï (ï ν id (ν id)) bid (ν bid) k=ν k:=fun k=>by
  by_cases q1:k=bid
  ·rw[q1,Ï]
  ·rw[ė _ _ q1]
   by_cases q2:k=id
   ·rw[q2,Ï]
   ·rw[ė _ _ q2]
 have hAv':∀b,Av (ï (ï ν id (ν id)) bid (ν bid)) (ð (ð h id (.row r.ty g false ys')) bid (.cells (flat r.mt m2))) b→@Av (Gh G') ν' h' b:=by
  rintro b (⟨k,hk,ho⟩|hg)
  ·rw[nself] at ho
   by_cases q1:k=bid
   ·rw[q1] at ho;exact .inl ⟨1,lv1,by rw[v1]; exact ho⟩
   ·rw[Ó _ q1] at hk
    by_cases q2:k=id
    ·rw[q2] at ho;exact .inl ⟨0,lv0,by rw[v0]; exact ho⟩
    ·rw[Ó _ q2] at hk;refine .inr ?_;show G' b;rw[hG'];exact⟨.inl ⟨k,hk,ho⟩,fun q=>q2 (H.inj k id b hk hliveR ho q),fun q=>q1 (H.inj k bid b hk hliveB ho q)⟩
  ·refine .inr ?_;show G' b;rw[hG'];exact⟨.inr hg,fun q=>H.ghne id b hliveR q hg,fun q=>H.ghne bid b hliveB q hg⟩
 obtain⟨ev,hr2⟩:=upd2 (w':=w') (A:=.row r.ty g false ys') (B:=.cells (flat r.mt m2)) (U:=ν id) (V:=ν bid) H hne hidl hbl g3.os g3.tape g3.output g3.size
  (fun b hb q1 q2=>(g3.keep b hb fun⟨i,hi,ho⟩=>by
   match i,hi,ho with
   |0,_,ho=>rw[n0] at ho; exact q1 hliveR ho
   |1,_,ho=>rw[n1] at ho; exact q2 hliveB ho
   |i+2,hi,_=>cases hi).1)
  (fun _ b hb=>.inl ⟨hliveR,hb⟩) (fun _ b hb=>.inr (.inl ⟨hliveB,hb⟩)) (fun _ _ b h1 h2=>hne (H.inj id bid b hliveR hliveB h1 h2))
  (by rw[hl]; exact⟨g,false,ys',rfl,cG _,fun _=>⟨nself id,hylen⟩⟩)
  (by rw[hlb]; exact⟨⟨_,rfl⟩,nself bid⟩)
  (fun ev=>by
   obtain⟨base,cap,q1,q2,q3⟩:=b0;refine⟨base,cap,(nself id).trans (v0.symm.trans q1),q2,q3.imp (fun x=>x) fun⟨b,off,c,e',q4,q5,q6,q7⟩=>⟨b,off,c,e',q4,q5,q6,fun i y hy=>?_⟩⟩;obtain⟨us,q8,q9⟩:=q7 i y hy
   exact⟨us,CR.mono hAv' q8,q9⟩)
  (fun ev=>by
   obtain⟨b2,c2,e2,q1,q2,q3⟩:=b1
   exact⟨b2,c2,e2,(nself bid).trans (v1.symm.trans q1),q2,lR (CR.mono hAv' (ğ hm' (@QB (Gh G') _ _ _ g2 _ hcs' _ q3)))⟩)
 refine⟨_,_,.tup [],u,rfl,?_,hr2,ev,by rw[Ñ,Ñ]; exact cG _,fun j hj hd=>?_,e⟩
 ·obtain⟨vs,q1,q2⟩:=g1;exact⟨vs,q1,by rw[q2.nil_left]; trivial⟩
 ·have j1:j≠bid:=fun q=>by rw[q,hlb] at hd; cases hd
  have j2:j≠id:=fun q=>by rw[q,hl] at hd; cases hd
  rw[Ó _ j1,Ó _ j2];exact hd
end
inductive abv where
 |row (r:ac3)
def xK {ρ:Type}:abv→List Blk→List AV→(AV→List Blk→Option ρ)→Option ρ
 |.row r=>rowX r
def XOk (P:Program) (f:Nat):abv→Prop
 |.row r=>ah2 P f r
def aa2:List (Nat×abv)→Nat→Option abv
 |[],_=>none
 |e::l,f=>match Nat.beq e.1 f with
  |true=>some e.2
  |false=>aa2 l f
def extT {ρ:Type} (xt:List (Nat×abv)) (f:Nat):Option (List Blk→List AV→(AV→List Blk→Option ρ)→Option ρ) :=
 match aa2 xt f with
 |some x=>some (xK x)
 |none=>none
def M3:∀{l:List (Nat×abv)} {f:Nat} {x:abv},aa2 l f=some x→(f,x)∈l
 |[],_,_,e=>by cases e
 |a::l,f,x,e=>by
  simp only[aa2] at e
  split at e
  ·rename_i h;cases e;obtain rfl:=cR h;exact .head _
  ·exact .tail _ (M3 e)
def ext_of [Ghost] {ρ:Type} {P:Program} {xt:List (Nat×abv)} (hx:∀e∈xt,XOk P e.1 e.2):∀f X,extT (ρ:=ρ) xt f=some X→acY P f X:=by
 intro f X h;unfold extT at h
 split at h<;>try (cases h; done)
 rename_i x hf;cases h;have:=hx (f,x) (M3 hf)
 cases x with
 |row r=>exact ajt this
def lU [Ghost] {ρ:Type} {E:Env ρ} (h:E.ext=fun _=>none):∀f X,E.ext f=some X→acY E.P f X:=fun f X e=>by rw[h] at e; cases e
def TB [Ghost] {ρ:Type} {P:Program} {E:Env ρ} {xt:List (Nat×abv)} (hx:∀e∈xt,XOk P e.1 e.2) (h:E.ext=extT xt) (hP:E.P=P:=by rfl):∀f X,E.ext f=some X→acY E.P f X:=fun f X e=>by
 rw[h] at e;rw[hP];exact ext_of hx f X e
end Go.Am
end

noncomputable section
namespace Go.Am
abbrev ilt (a b:Int):Bool:=decide (a<b)
abbrev ile (a b:Int):Bool:=decide (a≤b)
abbrev igt (a b:Int):Bool:=decide (a>b)
abbrev ige (a b:Int):Bool:=decide (a≥b)
abbrev ieq (a b:Int):Bool:=a==b
abbrev ine (a b:Int):Bool:=a != b
abbrev xc (a b:Int):Bool:=decide (a=b)
abbrev Û {α:Type} (l:List α):Int:=ab4 l.length
abbrev î {α:Type} (l:List α):Int:=(l.length:Int)
section
variable {ρ:Type}
def ck (n:Int) (f:Int→Option ρ):Option ρ:=f (wr64 n)
def ě {α:Type} (l:List α) (i:Int) (f:α→Option ρ):Option ρ :=
 match decide (0≤i) with
 |true=>match l[i.toNat]? with
  |some e=>f e
  |none=>none
 |false=>none
def ĸ {α:Type} (l:List α) (i:Nat) (f:α→Option ρ):Option ρ :=
 match l[i]? with
 |some e=>f e
 |none=>none
def NK {k v:Ty} (x:Val k) (l:List (Val k×Val v)) (f:Val v→Option ρ) (g:Option ρ):Option ρ :=
 match l5 x l with
 |some y=>f y
 |none=>g
def ä (b:Bool) (x:Option ρ):Option ρ:=match b with|true=>x|false=>none
def ifb (b:Bool) (x y:Option ρ):Option ρ:=match b with|true=>x|false=>y
def UG (x:Option (List Int)) (f:Int→Option ρ) (n:Option ρ):Option ρ :=
 Ä x fun l=>match l.find? (fun e=>e != 0) with
  |some e=>f e
  |none=>n
def KD {α β:Type} (f:α→Option β):List α→Option (List β)
 |[]=>some []
 |a::l=>match f a with
  |some b=>match KD f l with
   |some m=>some (b::m)
   |none=>none
  |none=>none
def xu (n:Nat):List Int:=(List.range n).map fun(i:Nat)=>(i:Int)
end
end Go.Am
end
