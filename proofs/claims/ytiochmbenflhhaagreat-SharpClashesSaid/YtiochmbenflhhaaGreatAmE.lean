/- lemmas -/
import Derived.Test.YtiochmbenflhhaaGreatAmC
import Derived.Lib.SliceRun
set_option linter.all false
set_option linter.unusedSectionVars false
set_option linter.unusedVariables false
set_option linter.unusedSimpArgs false
noncomputable section
namespace Go.Am
variable [ô]
section
variable {ρ:Type} {ν:Nat→Value} {h:List Blk} {w:World} {P:Program}
omit [ô] in
def BD (w:World) (t e:TypeId) (ie:TypeInfo) (z:Value) (hu:P.underlying t=some (.slice e)) (hie:P.info? e=some ie) (hz:ie.zero=some z) :
 (Instr.buildSlice t 0 #[]).run P w=.ok (.slice (some ⟨w.heap.size,0,none⟩) 0 0) (w.alloc (.cells #[] e)):=by
 simp[Instr.buildSlice,run_underlying hu,sizeOf,typeInfo,zeroValue,hie,hz,newRow,Instr.fill];rw[Array.eq_empty_of_size_eq_zero (xs:=Array.map (fun _=>(default:Value)) (Array.range 0)) (by simp)]
def ak0 (H:HR ν h w) (T ty:TypeId) {e:TypeId} {i:TypeInfo} {z:Value} (ht:P.underlying T=some (.slice e)) (hi:P.info? e=some i) (hz:i.zero=some z) {ety:Ty} (hsz:i.size=ety.size) (hpos:0<ety.size)
 (hby:i.bytes≤32768) (hzs:z.cells.size=ety.size) {nid:Nat} (hid:nid<h.length) (hd:lkB h nid=.dead) {ys:List (Val ety)} {a:Addr} {cy:Nat} (hy:SR w (Av ν h) ety ys (some a) cy) (hlen:ys.length≤4294967296) :
 ∃b cap w2,(Builtin.append_ #[T,T] ty #[.slice (some ⟨w.heap.size,0,none⟩) 0 0,.slice (some a) ys.length cy]).run P (w.alloc (.cells #[] e))=.ok (.slice (some ⟨b,0,none⟩) ys.length cap) w2∧w.heap.size≤b ∧
  Ev h.length ν h w (ą ν nid (.slice (some ⟨b,0,none⟩) ys.length cap)) (ć h nid (.row ety 0 false ys)) w2∧HR (ą ν nid (.slice (some ⟨b,0,none⟩) ys.length cap)) (ć h nid (.row ety 0 false ys)) w2 ∧
  (∀k,k<w.heap.size→w2.heap[k]?=w.heap[k]?)∧w.heap.size≤w2.heap.size∧w2.os=w.os∧w2.tape=w.tape∧w2.output=w.output:=by
 have hnext:∀V,(lkB h nid).next ν (ą ν nid V) nid (.row ety 0 false ys):=fun V=>by rw[hd]; trivial
 have hpush:(w.alloc (.cells #[] e)).heap=w.heap.push (.cells #[] e (0,0)):=rfl
 have hk1:∀b,b<w.heap.size→(w.alloc (.cells #[] e)).heap[b]?=w.heap[b]?:=fun b hb=>by rw[hpush,eT]; simp[fJ hb]
 obtain⟨ev1,H1⟩:=H.grow (w':=w.alloc (.cells #[] e)) hk1 (by simp) rfl rfl rfl h.length
 by_cases hy0:ys=[]
 ·subst hy0
  have hg:(w.alloc (.cells #[] e)).heap[w.heap.size]?=some (.cells #[] e (0,0)):=by rw[hpush]; simp
  have hrun:=oq (P:=P) (w:=w.alloc (.cells #[] e)) T ty e i ht hi (g:=w.heap.size) (o:=0) (sLen:=0) (sCap:=0) hg (some a) 0 cy [] (by simp) (fun _ _ j u hj=>by simp at hj) (fun _=>rfl) (fun u hu=>by cases hu) (by omega) (by simp)
  have hheap:((w.alloc (.cells #[] e)).setRow w.heap.size ((#[]:Array Value).toList.take (0+0*i.size)++[]++(#[]:Array Value).toList.drop (0+0*i.size+([]:List Value).length)).toArray).heap=w.heap.push (.cells #[] e (0,0)):=by
   apply Array.ext_getElem?
   intro k
   by_cases hk:k=w.heap.size
   ·subst hk;rw[setRow_heap _ _ _ _ _ _ hg]; simp
   ·rw[setRow_other _ _ _ _ hk,hpush]
  obtain⟨g1,g2⟩:=IU (w':=(w.alloc (.cells #[] e)).setRow w.heap.size ((#[]:Array Value).toList.take (0+0*i.size)++[]++(#[]:Array Value).toList.drop (0+0*i.size+([]:List Value).length)).toArray) H (cap':=0) (g':=0) (t:=ety) (xs':=[]) (news:=[]) hid hnext hheap rfl rfl rfl (by simp) (by simp) ⟨by simp,fun i x hi=>by simp at hi⟩ (fun j v hj=>by simp at hj);exact⟨w.heap.size,0,_,by simpa using hrun,cY _,g1,g2,fun k hk=>by rw[hheap,eT]; simp[fJ hk],by rw[hheap]; simp,rfl,rfl,rfl⟩
 ·have hy1:SR (w.alloc (.cells #[] e)) (Av ν h) ety ys (some a) cy:=by
   refine⟨hy.1,hy.2.imp id ?_⟩;rintro⟨b,off,h1,h2,h3⟩;refine⟨b,off,h1,by simp; omega,fun i x hx=>?_⟩;obtain⟨us,h4,h5⟩:=h3 i x hx;exact⟨us,CR.keep ev1.keepA h4,h5.keep (hk1 b h2)⟩
  obtain⟨news,hn1,hn2,hn3,hn4,hn5⟩:=hy1.flat;have h0:0<ys.length:=gh.2 hy0
  have hbytes:ys.length*i.bytes≤140737488355328:=by
   have:=gr hlen hby;omega
  have hrun:=run_append_grow (P:=P) (w.alloc (.cells #[] e)) T ty e i z ht hi hz ⟨w.heap.size,0,none⟩ 0 0 [] (by simp) (fun j v hj=>by simp at hj) a ys.length cy news (by rw[hsz]; exact hn1) (hn2 a rfl) (by omega) (by omega) (growslice_fits (by omega) (by simpa using hbytes));have hge:=grownCap_ge (w.alloc (.cells #[] e)) (0+ys.length) 0 e
  obtain⟨g1,g2⟩:=IU (w:=w.alloc (.cells #[] e)) (w':=(w.alloc (.cells #[] e)).drew.alloc (.cells (([]:List Value).toArray++news.toArray++Builtin.zeroCells z.cells (grownCap (w.alloc (.cells #[] e)) (0+ys.length) 0 e-(0+ys.length))) e))
   H1 (cap':=grownCap (w.alloc (.cells #[] e)) (0+ys.length) 0 e) (g':=0) (t:=ety) (xs':=ys) (news:=news) hid hnext rfl rfl rfl rfl (by simpa using hge) (by
    simp only[gQ,eY,size_zeroCells,hzs,hn1,←dH];simp only[dE,du,←dH]
    apply dJ; omega) ⟨hn1,hn5⟩ (fun j v hj=>by
     rw[←eM] at hj;have:=(eD.1 hj).1;simp only[gE,fM];rw[fc,if_pos this]
     exact hj)
  have hb:∀k,k<w.heap.size→((w.alloc (.cells #[] e)).drew.alloc (.cells (([]:List Value).toArray++news.toArray++Builtin.zeroCells z.cells (grownCap (w.alloc (.cells #[] e)) (0+ys.length) 0 e-(0+ys.length))) e)).heap[k]?=w.heap[k]?:=fun k hk=>by
   show(((w.alloc (.cells #[] e)).heap.push _))[k]?=_;rw[eT,if_neg (by simp; omega)];exact hk1 k hk
  exact⟨_,_,_,by simpa using hrun,by simp,ev1.trans g1 (cY _),g2,hb,by show w.heap.size≤((w.heap.push _).push _).size; simp; omega,rfl,rfl,rfl⟩
def arj (d:Nat) (o:Oper):Option Op:=match o.guard,o.dst with
 |none,some d'=>match Nat.beq d' d with
  |true=>some o.op
  |false=>none
 |_,_=>none
def ajc:Operand→Bool
 |.const (.slice none 0 0)=>true
 |_=>false
def ae6 (i:Nat):Operand→Bool
 |.tmp j=>Nat.beq j i
 |_=>false
def XG (d:Nat) (o:Oper):Bool:=match arj d o with
 |some (.assign x)=>ajc x
 |_=>false
def akr (d i:Nat) (o:Oper):Bool:=match arj d o with
 |some (.move x)=>ae6 i x
 |_=>false
def ajO (d i:Nat) (o:Oper):Bool:=match arj d o with
 |some (.assign x)=>ae6 i x
 |_=>false
def aql (T d i:Nat) (o:Oper):Bool:=match arj d o with
 |some (.binOp .eql t x y _)=>Nat.beq t T&&(ae6 i x&&ajc y)
 |_=>false
def abz (T d:Nat) (o:Oper):Bool:=match arj d o with
 |some (.buildSlice t 0 ps)=>Nat.beq t T&&ps.toList.isEmpty
 |_=>false
def abG (T d i j:Nat) (o:Oper):Bool:=match arj d o with
 |some (.call ⟨.builtin .append,as,ts⟩)=>match as.toList,ts.toList with
  |[x,y],[t,u]=>ae6 i x&&(ae6 j y&&(Nat.beq t T&&Nat.beq u T))
  |_,_=>false
 |_=>false
def K5 (fn:Func) (T:Nat):Bool:=match fn.body with
 |some (.seq (.region _ a0 false) (.seq (.seq (.region _ a1 false) (.cond c (.seq (.region _ a2 false) .ret) .skip)) (.seq (.region _ a3 false) .ret))) =>
  match a0.toList,a1.toList,a2.toList,a3.toList with
  |[o0],[o1,o2],[o3],[o4,o5,o6,o7] =>
   ae6 4 c&&(XG 2 o0&&(akr 3 0 o1&&(aql T 4 3 o2&&(XG 2 o3&&(abz T 5 o4&&(akr 6 0 o5&&(abG T 7 5 6 o6&&(ajO 2 7 o7&&(Nat.beq fn.ntmps 8&&match fn.results.toList with
    |[.tmp r]=>Nat.beq r 2
    |_=>false)))))))))
  |_,_,_,_=>false
 |_=>false
omit [ô] in
def tU {d:Nat} {o:Oper} {op:Op} (hh:arj d o=some op):o.guard=none∧o.dst=some d∧o.op=op:=by
 unfold arj at hh
 split at hh<;>try (cases hh; done)
 rename_i d' h1 h2
 split at hh<;>try (cases hh; done)
 rename_i hb;cases hh;exact⟨h1,by rw[h2,dn hb],rfl⟩
omit [ô] in
def Se {x:Operand} (hh:ajc x=true):x=.const (.slice none 0 0):=by
 unfold ajc at hh; split at hh<;>first|rfl|cases hh
omit [ô] in
def pE {i:Nat} {x:Operand} (hh:ae6 i x=true):x=.tmp i:=by
 unfold ae6 at hh; split at hh
 ·rw[dn hh]
 ·cases hh
omit [ô] in
def Tl {d:Nat} {o:Oper} (hh:XG d o=true):o.guard=none∧o.dst=some d∧o.op=.assign (.const (.slice none 0 0)):=by
 unfold XG at hh; split at hh<;>try (cases hh; done)
 rename_i x hx;rw[Se hh] at hx; exact tU hx
omit [ô] in
def WC {d i:Nat} {o:Oper} (hh:akr d i o=true):o.guard=none∧o.dst=some d∧o.op=.move (.tmp i):=by
 unfold akr at hh; split at hh<;>try (cases hh; done)
 rename_i x hx;rw[pE hh] at hx; exact tU hx
omit [ô] in
def ah8 {d i:Nat} {o:Oper} (hh:ajO d i o=true):o.guard=none∧o.dst=some d∧o.op=.assign (.tmp i):=by
 unfold ajO at hh; split at hh<;>try (cases hh; done)
 rename_i x hx;rw[pE hh] at hx; exact tU hx
omit [ô] in
def akS {T d i:Nat} {o:Oper} (hh:aql T d i o=true):o.guard=none∧o.dst=some d∧∃u,o.op=.binOp .eql T (.tmp i) (.const (.slice none 0 0)) u:=by
 unfold aql at hh; split at hh<;>try (cases hh; done)
 rename_i t x y u hx;simp only[cZ] at hh;rw[dn hh.1,pE hh.2.1,Se hh.2.2] at hx;obtain⟨h1,h2,h3⟩:=tU hx;exact⟨h1,h2,u,h3⟩
omit [ô] in
def afR {T d:Nat} {o:Oper} (hh:abz T d o=true):o.guard=none∧o.dst=some d∧o.op=.buildSlice T 0 #[]:=by
 unfold abz at hh; split at hh<;>try (cases hh; done)
 rename_i t ps hx;simp only[cZ] at hh
 have:ps=#[]:=by
  apply fi;simpa using hh.2
 rw[dn hh.1,this] at hx;exact tU hx
omit [ô] in
def afU {T d i j:Nat} {o:Oper} (hh:abG T d i j o=true):o.guard=none∧o.dst=some d∧o.op=.call ⟨.builtin .append,#[.tmp i,.tmp j],#[T,T]⟩:=by
 unfold abG at hh; split at hh<;>try (cases hh; done)
 rename_i as ts hx
 split at hh<;>try (cases hh; done)
 rename_i x y t u h1 h2;simp only[cZ] at hh;obtain⟨q1,q2,q3,q4⟩:=hh
 have ha:as=#[.tmp i,.tmp j]:=by
  apply fi; rw[h1,pE q1,pE q2]
 have hb:ts=#[T,T]:=by
  apply fi; rw[h2,dn q3,dn q4]
 rw[ha,hb] at hx;exact tU hx
omit [ô] in
def SU {fn:Func} {T:Nat} (hh:K5 fn T=true):∃r0 r1 r2 r3 o0 o1 o2 o3 o4 o5 o6 o7,
 fn.body=some (.seq (.region r0 #[o0] false) (.seq (.seq (.region r1 #[o1,o2] false) (.cond (.tmp 4) (.seq (.region r2 #[o3] false) .ret) .skip)) (.seq (.region r3 #[o4,o5,o6,o7] false) .ret))) ∧
 XG 2 o0=true∧akr 3 0 o1=true∧aql T 4 3 o2=true∧XG 2 o3=true∧abz T 5 o4=true∧akr 6 0 o5=true∧abG T 7 5 6 o6=true∧ajO 2 7 o7=true∧fn.ntmps=8∧fn.results=#[.tmp 2]:=by
 unfold K5 at hh
 split at hh<;>try (cases hh; done)
 rename_i r0 a0 r1 a1 c r2 a2 r3 a3 hb
 split at hh<;>try (cases hh; done)
 rename_i o0 o1 o2 o3 o4 o5 o6 o7 h0 h1 h2 h3;simp only[cZ] at hh;obtain⟨k0,k1,k2,k3,k4,k5,k6,k7,k8,k9,k10⟩:=hh
 split at k10<;>try (cases k10; done)
 rename_i r hr;have e0:a0=#[o0]:=fi h0;have e1:a1=#[o1,o2]:=fi h1;have e2:a2=#[o3]:=fi h2;have e3:a3=#[o4,o5,o6,o7]:=fi h3
 have e4:fn.results=#[.tmp 2]:=by
  apply fi; rw[hr,dn k10]
 exact⟨r0,r1,r2,r3,o0,o1,o2,o3,o4,o5,o6,o7,by rw[hb,e0,e1,e2,e3,pE k0],k1,k2,k3,k4,k5,k6,k7,k8,dn k9,e4⟩
omit [ô] in
def rc {ops:Array Oper} {i d:Nat} {o:Oper} {u:Value} {w':World} {a:Act} {next:Act→World→Prop} {Q:Exit→Act→World→Prop} (ho:ops[i]?=some o) (hg:o.guard=none) (hd:o.dst=some d)
 (hrun:(execOp a.eval o).run P w=.ok (.value u) w') (k:next (a.put (some d) u) w'):wpOpIn Fence.wide 0 P ops Q i next a w:=by
 unfold wpOpIn;rw[ho]
 have hw:Region.wanted o (yielded ops a.tmps)=true:=by simp[Region.wanted,hg]
 simp only[hw,if_true];refine⟨fun _ _=>trivial,?_⟩;rw[show Fence.wide.round=none from rfl,Oper.semAt_none,hrun];rw[←hd] at k;exact k
def Bs {g T:Nat} {fn:Func} (hf:P.funcs[g]?=some fn) (hs:K5 fn T=true) (hp:fn.params[0]?=some T) {fz:Bool} {S S':St} {nid:Nat} {x v:AV}
 (e:Au P g fz S nid x (fun v S=>some (v,S))=some (v,S')) {u:Value} (H:HR ν S.h w) (hx:VR ν S.h w x u) (hn:nid<S.h.length) (hd:lkB S.h nid=.dead) :
 (∃fn c,P.funcs[g]?=some fn∧fn.body=some c) ∧
 CallsIn Fence.wide 0 P g #[u] w fun e w'=>∃ν' u',e=.returned u'∧VR ν' S'.h w' v u'∧HR ν' S'.h w'∧Ev S.h.length ν S.h w ν' S'.h w'∧S.h.length≤S'.h.length∧Ŋ nid S.h S'.h∧S'.t=S.t:=by
 obtain⟨r0,r1,r2,r3,o0,o1,o2,o3,o4,o5,o6,o7,hb,k0,k1,k2,k3,k4,k5,k6,k7,hnt,hres⟩:=SU hs;refine⟨⟨fn,_,hf,hb⟩,?_⟩;unfold Au at e;rw[hf] at e;simp only[hp,Option.bind_some] at e
 split at e<;>try (cases e; done)
 rename_i el hel
 split at e<;>try (cases e; done)
 rename_i ety hety
 split at e<;>try (cases e; done)
 rename_i hrow;obtain⟨i,z,hi,hsz,hpos,hby,hz,hzs⟩:=ld hrow
 split at e<;>try (cases e; done)
 rename_i ys hys
 split at e<;>try (cases e; done)
 rename_i hok
 have hok:ys.length≤4294967296:=by simpa[ã] using hok
 obtain⟨by_,cy,rfl,hsr⟩:=asq H hx hys;have ht:=jY hel;obtain⟨g0,d0,p0⟩:=Tl k0;obtain⟨g1,d1,p1⟩:=WC k1;obtain⟨g2,d2,u2,p2⟩:=akS k2;obtain⟨g3,d3,p3⟩:=Tl k3;obtain⟨g4,d4,p4⟩:=afR k4;obtain⟨g5,d5,p5⟩:=WC k5;obtain⟨g6,d6,p6⟩:=afU k6;obtain⟨g7,d7,p7⟩:=ah8 k7;refine callsIn_of_wp hf hb trivial ?_;simp only[hnt,eY,dj,dE,Nat.reduceAdd,Nat.reduceSub,Array.replicate_succ,Array.replicate_zero,List.push_toArray,gE,fM,ff]
 have fin:∀{a:Act} {w':World} {ν':Nat→Value} {u':Value},a.tmps.getD 2 undef=u'→a.defers=[]→VR ν' S'.h w' v u'→HR ν' S'.h w'→Ev S.h.length ν S.h w ν' S'.h w'→S.h.length≤S'.h.length→Ŋ nid S.h S'.h→S'.t=S.t →
  bodyPost P fn (fun e w'=>∃ν' u',e=.returned u'∧VR ν' S'.h w' v u'∧HR ν' S'.h w'∧Ev S.h.length ν S.h w ν' S'.h w'∧S.h.length≤S'.h.length∧Ŋ nid S.h S'.h∧S'.t=S.t) .ret a w':=by
  intro a w' ν' u' q1 q2 q3 q4 q5 q6 q7 q8;exact bodyPost_ret (v:=u') (by rw[results_tmp hres,q1]) q2 ⟨ν',u',rfl,q3,q4,q5,q6,q7,q8⟩
 refine wpIn_seq (wpIn_region ?_);rw[show List.range (#[o0]:Array Oper).size=[0] from rfl,wpOpsIn_cons];refine rc (o:=o0) (u:=.slice none 0 0) (w':=w) rfl g0 d0 (by unfold execOp; rw[p0]; rfl) ?_;refine wpIn_seq (wpIn_seq (wpIn_region ?_));rw[show List.range (#[o1,o2]:Array Oper).size=[0,1] from rfl,wpOpsIn_cons];refine rc (o:=o1) (u:=.slice by_ ys.length cy) (w':=w) rfl g1 d1 (by unfold execOp; rw[p1]; rfl) ?_;rw[wpOpsIn_cons]
 refine rc (o:=o2) (u:=.bool by_.isNone) (w':=w) rfl g2 d2 (by
  unfold execOp; rw[p2];have h1:=Lib.run_eql_slice_nil (P:=P) w T el by_ ys.length cy 0 0 ht
  have h2:(eqGuard .eql T (.tmp 3) (.const (.slice none 0 0)) (.slice by_ ys.length cy) (.slice none 0 0)).run P w=.ok () w:=by simp[eqGuard]
  show((do let u ←(do eqGuard .eql T (.tmp 3) (.const (.slice none 0 0)) (.slice by_ ys.length cy) (.slice none 0 0); binOp .eql T (.slice by_ ys.length cy) (.slice none 0 0)); pure (.value u)):Sem Next).run P w=_
  simp only[Sem.run_bind,h1,h2,Result.andThen_ok]; rfl) ?_
 cases by_ with
 |none =>
  have hy:ys=[]:=by
   rcases hsr.2 with hy|⟨b,off,hf,_⟩
   ·exact hy
   ·cases hf
  subst hy;refine wpIn_cond_true rfl (wpIn_seq (wpIn_region ?_));rw[show List.range (#[o3]:Array Oper).size=[0] from rfl,wpOpsIn_cons];refine rc (o:=o3) (u:=.slice none 0 0) (w':=w) rfl g3 d3 (by unfold execOp; rw[p3]; rfl) ?_;refine wpIn_ret ?_
  cases fz with
  |true =>
   cases e;exact fin (ν':=ν) (u':=.slice none 0 0) rfl rfl ⟨none,0,rfl,cY _,.inl rfl⟩ H (Ev.refl _ _ _ _) (cY _) (Ŋ.refl _ _) rfl
  |false =>
   cases e;obtain⟨ev,H2⟩:=XZ (g':=0) (t:=ety) H hn (fun V=>by rw[hd]; trivial);exact fin rfl rfl (yo hn rfl) H2 ev (by rw[Û]; exact cY _) (Ŋ.upd _ (.inl rfl)) rfl
 |some a =>
  refine wpIn_cond_false rfl (wpIn_skip ?_);refine wpIn_seq (wpIn_region ?_);rw[show List.range (#[o4,o5,o6,o7]:Array Oper).size=[0,1,2,3] from rfl,wpOpsIn_cons]
  refine rc (o:=o4) (u:=.slice (some ⟨w.heap.size,0,none⟩) 0 0) (w':=w.alloc (.cells #[] el)) rfl g4 d4 (by
   unfold execOp; rw[p4];have:=BD (P:=P) w T el i z ht hi hz
   simp only[List.map_toArray,fA,Sem.run_bind,this,Result.andThen_ok]; rfl) ?_
  rw[wpOpsIn_cons];refine rc (o:=o5) (u:=.slice (some a) ys.length cy) (w':=w.alloc (.cells #[] el)) rfl g5 d5 (by unfold execOp; rw[p5]; rfl) ?_;rw[wpOpsIn_cons];obtain⟨b,cap,w2,hrun,hge,ev,H2,hk,hz2,ho,htp,hout⟩:=ak0 (nid:=nid) H T o6.type ht hi hz hsz hpos hby hzs hn hd hsr hok
  refine rc (o:=o6) (u:=.slice (some ⟨b,0,none⟩) ys.length cap) (w':=w2) rfl g6 d6 (by
   rw[kO (S:=S) (f:=Builtin.append_) p6 (fun _ _=>rfl)];simp only[List.map_toArray,eV,fA]
   erw [Sem.run_bind,hrun]; rfl) ?_
  rw[wpOpsIn_cons];refine rc (o:=o7) (u:=.slice (some ⟨b,0,none⟩) ys.length cap) (w':=w2) rfl g7 d7 (by unfold execOp; rw[p7]; rfl) ?_;refine wpIn_ret ?_
  cases fz with
  |true =>
   cases e;obtain⟨ev2,H3⟩:=H.grow hk hz2 ho htp hout S.h.length;refine fin (ν':=ν) (u':=.slice (some ⟨b,0,none⟩) ys.length cap) (by simp[Act.put]) rfl ?_ H3 ev2 (cY _) (Ŋ.refl _ _) rfl;have hB:=H2.blk nid;rw[ò _ hn] at hB;obtain⟨base,cap',q1,q2,q3⟩:=hB;rw[Ý] at q1;cases q1;refine⟨_,_,rfl,q2,?_⟩;rcases q3 with⟨q3,_⟩|⟨b',off,c,e',q4,q5,q6,q7⟩
   ·cases q3
   ·cases q4;refine .inr ⟨b,0,rfl,fun hf=>by have:=H.ltA hf; omega,ē q5,fun i x hi=>?_⟩;obtain⟨us,q8,q9⟩:=q7 i x hi;refine⟨us,q8.mono (fun k hk=>?_),q9⟩;rcases hk with⟨id,hk1,hk2⟩|hk
    ·have hne:id≠nid:=fun hf=>by rw[hf,hd] at hk1; cases hk1
     exact .inl ⟨id,by rw[ó _ hne]; exact hk1,by rw[ő _ _ hne]; exact hk2⟩
    ·exact .inr hk
  |false =>
   cases e;exact fin (u':=.slice (some ⟨b,0,none⟩) ys.length cap) (by simp[Act.put]) rfl (yo hn rfl) H2 ev (by rw[Û]; exact cY _) (Ŋ.upd _ (.inl rfl)) rfl
end
end Go.Am
end
