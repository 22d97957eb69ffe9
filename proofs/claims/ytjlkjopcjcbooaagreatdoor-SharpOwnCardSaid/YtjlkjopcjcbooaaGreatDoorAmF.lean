/- lemmas -/
import Derived.Test.YtjlkjopcjcbooaaGreatDoorAmC
import Derived.Lib.SliceRun
set_option linter.all false
noncomputable section
namespace Go.Am
variable [Globs] [É]
section
variable {ρ:Type} {ν:Nat->Value} {h:y5 Blk} {w:World} {P:Program}
omit [É] in
def vO (w:World) (t e:TypeId) (b:TypeInfo) (z:Value) (d:P.underlying t=some (.slice e)) (a:P.info? e=some b) (c:b.zero=some z) :
 (Instr.buildSlice t 0 #[]).run P w=.ok (.slice (some ⟨w.heap.size,0,none⟩) 0 0) (w.alloc (.cells #[] e)):=by
 simp[Instr.buildSlice,run_underlying d,sizeOf,typeInfo,zeroValue,a,c,newRow,Instr.fill];rw[Array.eq_empty_of_size_eq_zero (xs:=Array.map (fun _=>(default:Value)) (Array.range 0)) (by simp)]
def U0 (H:HR ν h w) (T ty:TypeId) {e:TypeId} {i:TypeInfo} {z:Value} (Q:P.underlying T=some (.slice e)) (hi:P.info? e=some i) (U:i.zero=some z) {c:Ty} (G:i.size=c.size) (R:0<c.size)
 (L:i.bytes<=32768) (E:z.cells.size=c.size) {nid:Nat} (C:nid<h.length) (hd:lkB h nid=.dead) {ys:y5 (Val c)} {a:Addr} {cy:Nat} (O:SR w (Av ν h) c ys (some a) cy) (B:ys.length<=4294967296) :
 ∃b cap q,(Builtin.append_ #[T,T] ty #[.slice (some ⟨w.heap.size,0,none⟩) 0 0,.slice (some a) ys.length cy]).run P (w.alloc (.cells #[] e))=.ok (.slice (some ⟨b,0,none⟩) ys.length cap) q/\w.heap.size<=b /\
  Ev h.length ν h w (ì ν nid (.slice (some ⟨b,0,none⟩) ys.length cap)) (ã h nid (.row c 0 false ys)) q/\HR (ì ν nid (.slice (some ⟨b,0,none⟩) ys.length cap)) (ã h nid (.row c 0 false ys)) q /\
  (∀k,k<w.heap.size->q.heap[k]?=w.heap[k]?)/\w.heap.size<=q.heap.size/\q.os=w.os/\q.tape=w.tape/\q.output=w.output:=by
 have m:∀V,(lkB h nid).next ν (ì ν nid V) nid (.row c 0 false ys):=fun V=>by rw[hd]; trivial
 have d:(w.alloc (.cells #[] e)).heap=w.heap.push (.cells #[] e (0,0)):=rfl
 have s:∀b,b<w.heap.size->(w.alloc (.cells #[] e)).heap[b]?=w.heap[b]?:=fun b hb=>by rw[d,dO]; simp[eQ hb]
 obtain⟨D,H1⟩:=H.grow (w':=w.alloc (.cells #[] e)) s (by simp) rfl rfl rfl h.length
 by_cases A:ys=[]
 ·subst A
  have S:(w.alloc (.cells #[] e)).heap[w.heap.size]?=some (.cells #[] e (0,0)):=by rw[d]; simp
  have l:=l5 (P:=P) (w:=w.alloc (.cells #[] e)) T ty e i Q hi (g:=w.heap.size) (o:=0) (sLen:=0) (sCap:=0) S (some a) 0 cy [] (by simp) (fun _ _ j u n=>by simp at n) (fun _=>rfl) (fun u X=>by cases X) (by omega) (by simp)
  have f:((w.alloc (.cells #[] e)).setRow w.heap.size ((#[]:Array Value).toList.take (0+0*i.size)++[]++(#[]:Array Value).toList.drop (0+0*i.size+([]:y5 Value).length)).toArray).heap=w.heap.push (.cells #[] e (0,0)):=by
   apply Array.ext_getElem?
   intro k
   by_cases y:k=w.heap.size
   ·subst y;rw[setRow_heap _ _ _ _ _ _ S]; simp
   ·rw[setRow_other _ _ _ _ y,d]
  obtain⟨N,M⟩:=xq (w':=(w.alloc (.cells #[] e)).setRow w.heap.size ((#[]:Array Value).toList.take (0+0*i.size)++[]++(#[]:Array Value).toList.drop (0+0*i.size+([]:y5 Value).length)).toArray) H (cap':=0) (g':=0) (t:=c) (xs':=[]) (news:=[]) C m f rfl rfl rfl (by simp) (by simp) ⟨by simp,fun i x hi=>by simp at hi⟩ (fun j v n=>by simp at n);exact⟨w.heap.size,0,_,by simpa using l,bX _,N,M,fun k y=>by rw[f,dO]; simp[eQ y],by rw[f]; simp,rfl,rfl,rfl⟩
 ·have F:SR (w.alloc (.cells #[] e)) (Av ν h) c ys (some a) cy:=by
   refine⟨O.1,O.2.imp id ?_⟩;rintro⟨b,off,h1,h2,h3⟩;refine⟨b,off,h1,by simp; omega,fun i x W=>?_⟩;obtain⟨us,h4,h5⟩:=h3 i x W;exact⟨us,CR.keep D.keepA h4,h5.keep (s b h2)⟩
  obtain⟨news,r,J,Z,Y,I⟩:=F.flat;have h0:0<ys.length:=fm.2 A
  have p:ys.length*i.bytes<=140737488355328:=by
   have:=fF B L;omega
  have l:=run_append_grow (P:=P) (w.alloc (.cells #[] e)) T ty e i z Q hi U ⟨w.heap.size,0,none⟩ 0 0 [] (by simp) (fun j v n=>by simp at n) a ys.length cy news (by rw[G]; exact r) (J a rfl) (by omega) (by omega) (growslice_fits (by omega) (by simpa using p));have K:=grownCap_ge (w.alloc (.cells #[] e)) (0+ys.length) 0 e
  obtain⟨N,M⟩:=xq (w:=w.alloc (.cells #[] e)) (w':=(w.alloc (.cells #[] e)).drew.alloc (.cells (([]:y5 Value).toArray++news.toArray++Builtin.zeroCells z.cells (grownCap (w.alloc (.cells #[] e)) (0+ys.length) 0 e-(0+ys.length))) e))
   H1 (cap':=grownCap (w.alloc (.cells #[] e)) (0+ys.length) 0 e) (g':=0) (t:=c) (xs':=ys) (news:=news) C m rfl rfl rfl rfl (by simpa using K) (by
    simp only[fW,ee,size_zeroCells,E,r,<-cI];simp only[cz,cF,<-cI]
    apply cN; omega) ⟨r,I⟩ (fun j v n=>by
     rw[<-dJ] at n;have:=(dA.1 n).1;simp only[fO,dL];rw[dU,if_pos this]
     exact n)
  have hb:∀k,k<w.heap.size->((w.alloc (.cells #[] e)).drew.alloc (.cells (([]:y5 Value).toArray++news.toArray++Builtin.zeroCells z.cells (grownCap (w.alloc (.cells #[] e)) (0+ys.length) 0 e-(0+ys.length))) e)).heap[k]?=w.heap[k]?:=fun k y=>by
   show(((w.alloc (.cells #[] e)).heap.push _))[k]?=_;rw[dO,if_neg (by simp; omega)];exact s k y
  exact⟨_,_,_,by simpa using l,by simp,D.trans N (bX _),M,hb,by show w.heap.size<=((w.heap.push _).push _).size; simp; omega,rfl,rfl,rfl⟩
def abV (d:Nat) (o:Oper):x9 Op:=match o.guard,o.dst with
 |none,some a=>match Nat.beq a d with
  |true=>some o.op
  |false=>none
 |_,_=>none
def SO:Operand->Bool
 |.const (.slice none 0 0)=>true
 |_=>false
def On (i:Nat):Operand->Bool
 |.tmp j=>Nat.beq j i
 |_=>false
def Ka (d:Nat) (o:Oper):Bool:=match abV d o with
 |some (.assign x)=>SO x
 |_=>false
def Uk (d i:Nat) (o:Oper):Bool:=match abV d o with
 |some (.move x)=>On i x
 |_=>false
def TD (d i:Nat) (o:Oper):Bool:=match abV d o with
 |some (.assign x)=>On i x
 |_=>false
def aaU (T d i:Nat) (o:Oper):Bool:=match abV d o with
 |some (.binOp .eql t x y _)=>Nat.beq t T&&(On i x&&SO y)
 |_=>false
def L5 (T d:Nat) (o:Oper):Bool:=match abV d o with
 |some (.buildSlice t 0 ps)=>Nat.beq t T&&ps.toList.isEmpty
 |_=>false
def Mb (T d i j:Nat) (o:Oper):Bool:=match abV d o with
 |some (.call ⟨.builtin .append,as,ts⟩)=>match as.toList,ts.toList with
  |[x,y],[t,u]=>On i x&&(On j y&&(Nat.beq t T&&Nat.beq u T))
  |_,_=>false
 |_=>false
def Cf (fn:Func) (T:Nat):Bool:=match fn.body with
 |some (.seq (.region _ a0 false) (.seq (.seq (.region _ l false) (.cond c (.seq (.region _ k false) .ret) .skip)) (.seq (.region _ a3 false) .ret))) =>
  match a0.toList,l.toList,k.toList,a3.toList with
  |[j],[i,g],[f],[e,d,b,a] =>
   On 4 c&&(Ka 2 j&&(Uk 3 0 i&&(aaU T 4 3 g&&(Ka 2 f&&(L5 T 5 e&&(Uk 6 0 d&&(Mb T 7 5 6 b&&(TD 2 7 a&&(Nat.beq fn.ntmps 8&&match fn.results.toList with
    |[.tmp r]=>Nat.beq r 2
    |_=>false)))))))))
  |_,_,_,_=>false
 |_=>false
omit [É] in
def pM {d:Nat} {o:Oper} {op:Op} (a:abV d o=some op):o.guard=none/\o.dst=some d/\o.op=op:=by
 unfold abV at a
 split at a<;>try (cases a; done)
 rename_i c b h2
 split at a<;>try (cases a; done)
 rename_i hb;cases a;exact⟨b,by rw[h2,cd hb],rfl⟩
omit [É] in
def Gj {x:Operand} (a:SO x=true):x=.const (.slice none 0 0):=by
 unfold SO at a; split at a<;>first|rfl|cases a
omit [É] in
def mZ {i:Nat} {x:Operand} (a:On i x=true):x=.tmp i:=by
 unfold On at a; split at a
 ·rw[cd a]
 ·cases a
omit [É] in
def Hl {d:Nat} {o:Oper} (a:Ka d o=true):o.guard=none/\o.dst=some d/\o.op=.assign (.const (.slice none 0 0)):=by
 unfold Ka at a; split at a<;>try (cases a; done)
 rename_i x b;rw[Gj a] at b; exact pM b
omit [É] in
def Jf {d i:Nat} {o:Oper} (a:Uk d i o=true):o.guard=none/\o.dst=some d/\o.op=.move (.tmp i):=by
 unfold Uk at a; split at a<;>try (cases a; done)
 rename_i x b;rw[mZ a] at b; exact pM b
omit [É] in
def Q8 {d i:Nat} {o:Oper} (a:TD d i o=true):o.guard=none/\o.dst=some d/\o.op=.assign (.tmp i):=by
 unfold TD at a; split at a<;>try (cases a; done)
 rename_i x b;rw[mZ a] at b; exact pM b
omit [É] in
def UN {T d i:Nat} {o:Oper} (a:aaU T d i o=true):o.guard=none/\o.dst=some d/\∃u,o.op=.binOp .eql T (.tmp i) (.const (.slice none 0 0)) u:=by
 unfold aaU at a; split at a<;>try (cases a; done)
 rename_i t x y u b;simp only[bZ] at a;rw[cd a.1,mZ a.2.1,Gj a.2.2] at b;obtain⟨e,h2,c⟩:=pM b;exact⟨e,h2,u,c⟩
omit [É] in
def Pg {T d:Nat} {o:Oper} (a:L5 T d o=true):o.guard=none/\o.dst=some d/\o.op=.buildSlice T 0 #[]:=by
 unfold L5 at a; split at a<;>try (cases a; done)
 rename_i t ps b;simp only[bZ] at a
 have:ps=#[]:=by
  apply eo;simpa using a.2
 rw[cd a.1,this] at b;exact pM b
omit [É] in
def Pk {T d i j:Nat} {o:Oper} (a:Mb T d i j o=true):o.guard=none/\o.dst=some d/\o.op=.call ⟨.builtin .append,#[.tmp i,.tmp j],#[T,T]⟩:=by
 unfold Mb at a; split at a<;>try (cases a; done)
 rename_i as ts b
 split at a<;>try (cases a; done)
 rename_i x y t u k h2;simp only[bZ] at a;obtain⟨g,f,e,c⟩:=a
 have ha:as=#[.tmp i,.tmp j]:=by
  apply eo; rw[k,mZ g,mZ f]
 have hb:ts=#[T,T]:=by
  apply eo; rw[h2,cd e,cd c]
 rw[ha,hb] at b;exact pM b
omit [É] in
def GZ {fn:Func} {T:Nat} (a:Cf fn T=true):∃o n m l k j i g f e d b,
 fn.body=some (.seq (.region o #[k] false) (.seq (.seq (.region n #[j,i] false) (.cond (.tmp 4) (.seq (.region m #[g] false) .ret) .skip)) (.seq (.region l #[f,e,d,b] false) .ret))) /\
 Ka 2 k=true/\Uk 3 0 j=true/\aaU T 4 3 i=true/\Ka 2 g=true/\L5 T 5 f=true/\Uk 6 0 e=true/\Mb T 7 5 6 d=true/\TD 2 7 b=true/\fn.ntmps=8/\fn.results=#[.tmp 2]:=by
 unfold Cf at a
 split at a<;>try (cases a; done)
 rename_i o a0 n B c m A l a3 hb
 split at a<;>try (cases a; done)
 rename_i k j i g f e d b h0 t h2 s;simp only[bZ] at a;obtain⟨p,k1,k2,k3,k4,k5,k6,k7,k8,k9,k10⟩:=a
 split at k10<;>try (cases k10; done)
 rename_i r q;have z:a0=#[k]:=eo h0;have y:B=#[j,i]:=eo t;have x:A=#[g]:=eo h2;have v:a3=#[f,e,d,b]:=eo s
 have u:fn.results=#[.tmp 2]:=by
  apply eo; rw[q,cd k10]
 exact⟨o,n,m,l,k,j,i,g,f,e,d,b,by rw[hb,z,y,x,v,mZ p],k1,k2,k3,k4,k5,k6,k7,k8,cd k9,u⟩
omit [É] in
def oj {b:Array Oper} {i d:Nat} {o:Oper} {u:Value} {w':World} {a:Act} {next:Act->World->Prop} {Q:Exit->Act->World->Prop} (f:b[i]?=some o) (g:o.guard=none) (hd:o.dst=some d)
 (c:(execOp a.eval o).run P w=.ok (.value u) w') (k:next (a.put (some d) u) w'):wpOpIn Fence.wide 0 P b Q i next a w:=by
 unfold wpOpIn;rw[f]
 have e:Region.wanted o (yielded b a.tmps)=true:=by simp[Region.wanted,g]
 simp only[e,if_true];refine⟨fun _ _=>trivial,?_⟩;rw[show Fence.wide.round=none from rfl,Oper.semAt_none,c];rw[<-hd] at k;exact k
def vI {g T:Nat} {fn:Func} (l:P.funcs[g]?=some fn) (hs:Cf fn T=true) (hp:fn.params[0]?=some T) {fz:Bool} {S d:St} {nid:Nat} {x v:AV}
 (e:sP P g fz S nid x (fun v S=>some (v,S))=some (v,d)) {u:Value} (H:HR ν S.h w) (hx:VR ν S.h w x u) (D:nid<S.h.length) (hd:lkB S.h nid=.dead) :
 (∃fn c,P.funcs[g]?=some fn/\fn.body=some c) /\
 CallsIn Fence.wide 0 P g #[u] w fun e w'=>∃ν' u',e=.returned u'/\VR ν' d.h w' v u'/\HR ν' d.h w'/\Ev S.h.length ν S.h w ν' d.h w'/\S.h.length<=d.h.length/\ĝ nid S.h d.h/\d.t=S.t:=by
 obtain⟨r0,r1,r2,r3,o0,o1,o2,o3,o4,o5,O,o7,hb,k0,k1,k2,k3,k4,k5,k6,k7,hnt,y⟩:=GZ hs;refine⟨⟨fn,_,l,hb⟩,?_⟩;unfold sP at e;rw[l] at e;simp only[hp,Option.bind_some] at e
 split at e<;>try (cases e; done)
 rename_i G hel
 split at e<;>try (cases e; done)
 rename_i ety hety
 split at e<;>try (cases e; done)
 rename_i s;obtain⟨i,z,hi,Z,A,hby,hz,Q⟩:=jl s
 split at e<;>try (cases e; done)
 rename_i ys U
 split at e<;>try (cases e; done)
 rename_i m
 have m:ys.length<=4294967296:=by simpa[Ú] using m
 obtain⟨j,cy,rfl,q⟩:=adz H hx U;have Y:=iu hel;obtain⟨g0,d0,p0⟩:=Hl k0;obtain⟨g1,d1,p1⟩:=Jf k1;obtain⟨g2,d2,u2,p2⟩:=UN k2;obtain⟨g3,d3,p3⟩:=Hl k3;obtain⟨g4,d4,p4⟩:=Pg k4;obtain⟨g5,d5,p5⟩:=Jf k5;obtain⟨g6,d6,p6⟩:=Pk k6;obtain⟨g7,d7,p7⟩:=Q8 k7;refine callsIn_of_wp l hb trivial ?_;simp only[hnt,ee,cj,cz,Nat.reduceAdd,Nat.reduceSub,Array.replicate_succ,Array.replicate_zero,List.push_toArray,fO,dL,dw]
 have fin:∀{a:Act} {w':World} {ν':Nat->Value} {u':Value},a.tmps.getD 2 undef=u'->a.defers=[]->VR ν' d.h w' v u'->HR ν' d.h w'->Ev S.h.length ν S.h w ν' d.h w'->S.h.length<=d.h.length->ĝ nid S.h d.h->d.t=S.t ->
  bodyPost P fn (fun e w'=>∃ν' u',e=.returned u'/\VR ν' d.h w' v u'/\HR ν' d.h w'/\Ev S.h.length ν S.h w ν' d.h w'/\S.h.length<=d.h.length/\ĝ nid S.h d.h/\d.t=S.t) .ret a w':=by
  intro a w' ν' u' F N p M L q6 K J;exact bodyPost_ret (v:=u') (by rw[results_tmp y,F]) N ⟨ν',u',rfl,p,M,L,q6,K,J⟩
 refine wpIn_seq (wpIn_region ?_);rw[show List.range (#[o0]:Array Oper).size=[0] from rfl,wpOpsIn_cons];refine oj (o:=o0) (u:=.slice none 0 0) (w':=w) rfl g0 d0 (by unfold execOp; rw[p0]; rfl) ?_;refine wpIn_seq (wpIn_seq (wpIn_region ?_));rw[show List.range (#[o1,o2]:Array Oper).size=[0,1] from rfl,wpOpsIn_cons];refine oj (o:=o1) (u:=.slice j ys.length cy) (w':=w) rfl g1 d1 (by unfold execOp; rw[p1]; rfl) ?_;rw[wpOpsIn_cons]
 refine oj (o:=o2) (u:=.bool j.isNone) (w':=w) rfl g2 d2 (by
  unfold execOp; rw[p2];have h1:=Lib.run_eql_slice_nil (P:=P) w T G j ys.length cy 0 0 Y
  have h2:(eqGuard .eql T (.tmp 3) (.const (.slice none 0 0)) (.slice j ys.length cy) (.slice none 0 0)).run P w=.ok () w:=by simp[eqGuard]
  show((do let u <-(do eqGuard .eql T (.tmp 3) (.const (.slice none 0 0)) (.slice j ys.length cy) (.slice none 0 0); binOp .eql T (.slice j ys.length cy) (.slice none 0 0)); pure (.value u)):Sem Next).run P w=_
  simp only[Sem.run_bind,h1,h2,Result.andThen_ok]; rfl) ?_
 cases j with
 |none =>
  have W:ys=[]:=by
   rcases q.2 with W|⟨b,off,l,_⟩
   ·exact W
   ·cases l
  subst W;refine wpIn_cond_true rfl (wpIn_seq (wpIn_region ?_));rw[show List.range (#[o3]:Array Oper).size=[0] from rfl,wpOpsIn_cons];refine oj (o:=o3) (u:=.slice none 0 0) (w':=w) rfl g3 d3 (by unfold execOp; rw[p3]; rfl) ?_;refine wpIn_ret ?_
  cases fz with
  |true =>
   cases e;exact fin (ν':=ν) (u':=.slice none 0 0) rfl rfl ⟨none,0,rfl,bX _,.inl rfl⟩ H (Ev.refl _ _ _ _) (bX _) (ĝ.refl _ _) rfl
  |false =>
   cases e;obtain⟨ev,I⟩:=Kt (g':=0) (t:=ety) H D (fun V=>by rw[hd]; trivial);exact fin rfl rfl (sl D rfl) I ev (by rw[Ë]; exact bX _) (ĝ.upd _ (.inl rfl)) rfl
 |some a =>
  refine wpIn_cond_false rfl (wpIn_skip ?_);refine wpIn_seq (wpIn_region ?_);rw[show List.range (#[o4,o5,O,o7]:Array Oper).size=[0,1,2,3] from rfl,wpOpsIn_cons]
  refine oj (o:=o4) (u:=.slice (some ⟨w.heap.size,0,none⟩) 0 0) (w':=w.alloc (.cells #[] G)) rfl g4 d4 (by
   unfold execOp; rw[p4];have:=vO (P:=P) w T G i z Y hi hz
   simp only[List.map_toArray,eR,Sem.run_bind,this,Result.andThen_ok]; rfl) ?_
  rw[wpOpsIn_cons];refine oj (o:=o5) (u:=.slice (some a) ys.length cy) (w':=w.alloc (.cells #[] G)) rfl g5 d5 (by unfold execOp; rw[p5]; rfl) ?_;rw[wpOpsIn_cons];obtain⟨b,cap,w2,r,hge,ev,I,E,R,ho,X,B⟩:=U0 (nid:=nid) H T O.type Y hi hz Z A hby Q D hd q m
  refine oj (o:=O) (u:=.slice (some ⟨b,0,none⟩) ys.length cap) (w':=w2) rfl g6 d6 (by
   rw[i6 (S:=S) (f:=Builtin.append_) p6 (fun _ _=>rfl)];simp only[List.map_toArray,dC,eR]
   erw [Sem.run_bind,r]; rfl) ?_
  rw[wpOpsIn_cons];refine oj (o:=o7) (u:=.slice (some ⟨b,0,none⟩) ys.length cap) (w':=w2) rfl g7 d7 (by unfold execOp; rw[p7]; rfl) ?_;refine wpIn_ret ?_
  cases fz with
  |true =>
   cases e;obtain⟨ev2,H3⟩:=H.grow E R ho X B S.h.length;refine fin (ν':=ν) (u':=.slice (some ⟨b,0,none⟩) ys.length cap) (by simp[Act.put]) rfl ?_ H3 ev2 (bX _) (ĝ.refl _ _) rfl;have hB:=I.blk nid;rw[Ø _ D] at hB;obtain⟨base,cap',F,N,p⟩:=hB;rw[È] at F;cases F;refine⟨_,_,rfl,N,?_⟩;rcases p with⟨p,_⟩|⟨b',off,c,e',M,L,q6,K⟩
   ·cases p
   ·cases M;refine .inr ⟨b,0,rfl,fun l=>by have:=H.ltA l; omega,Ù L,fun i x hi=>?_⟩;obtain⟨us,J,q9⟩:=K i x hi;refine⟨us,J.mono (fun k E=>?_),q9⟩;rcases E with⟨id,n,hk2⟩|E
    ·have C:id≠nid:=fun l=>by rw[l,hd] at n; cases n
     exact .inl ⟨id,by rw[Ì _ C]; exact n,by rw[ø _ _ C]; exact hk2⟩
    ·exact .inr E
  |false =>
   cases e;exact fin (u':=.slice (some ⟨b,0,none⟩) ys.length cap) (by simp[Act.put]) rfl (sl D rfl) I ev (by rw[Ë]; exact bX _) (ĝ.upd _ (.inl rfl)) rfl
end
end Go.Am
end
