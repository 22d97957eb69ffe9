/- lemmas -/
import Derived.Test.YtenljaeklhlanaaGreatAmC
import Derived.Lib.SliceRun
import Derived.Test.YtenljaeklhlanaaGreatAmA
set_option linter.all false
noncomputable section
namespace Go.Am
variable [Ghost]
section
variable {ρ:Type} {ν:Nat->Value} {h:CK Blk} {w:World} {P:Program}
omit [Ghost] in
def CP (w:World) (t e:TypeId) (b:TypeInfo) (z:Value) (d:P.underlying t=some (.slice e)) (a:P.info? e=some b) (c:b.zero=some z) :
 (Instr.buildSlice t 0 #[]).run P w=.ok (.slice (some ⟨w.heap.size,0,none⟩) 0 0) (w.alloc (.cells #[] e)):=by
 simp[Instr.buildSlice,run_underlying d,sizeOf,typeInfo,zeroValue,a,c,newRow,Instr.fill];rw[Array.eq_empty_of_size_eq_zero (xs:=Array.map (fun _=>(default:Value)) (Array.range 0)) (by simp)]
def af7 (H:HR ν h w) (T ty:TypeId) {e:TypeId} {i:TypeInfo} {z:Value} (O:P.underlying T=some (.slice e)) (hi:P.info? e=some i) (S:i.zero=some z) {c:Ty} (F:i.size=c.size) (Q:0<c.size)
 (K:i.bytes<=32768) (D:z.cells.size=c.size) {nid:Nat} (B:nid<h.length) (hd:lkB h nid=.dead) {ys:CK (Val c)} {a:Addr} {cy:Nat} (N:SR w (Av ν h) c ys (some a) cy) (A:ys.length<=4294967296) :
 ∃b cap w2,(Builtin.append_ #[T,T] ty #[.slice (some ⟨w.heap.size,0,none⟩) 0 0,.slice (some a) ys.length cy]).run P (w.alloc (.cells #[] e))=.ok (.slice (some ⟨b,0,none⟩) ys.length cap) w2/\w.heap.size<=b /\
  Ev h.length ν h w (ď ν nid (.slice (some ⟨b,0,none⟩) ys.length cap)) (Đ h nid (.row c 0 false ys)) w2/\HR (ď ν nid (.slice (some ⟨b,0,none⟩) ys.length cap)) (Đ h nid (.row c 0 false ys)) w2 /\
  (∀k,k<w.heap.size->w2.heap[k]?=w.heap[k]?)/\w.heap.size<=w2.heap.size/\w2.os=w.os/\w2.tape=w.tape/\w2.output=w.output:=by
 have m:∀V,(lkB h nid).next ν (ď ν nid V) nid (.row c 0 false ys):=fun V=>by rw[hd]; trivial
 have d:(w.alloc (.cells #[] e)).heap=w.heap.push (.cells #[] e (0,0)):=rfl
 have r:∀b,b<w.heap.size->(w.alloc (.cells #[] e)).heap[b]?=w.heap[b]?:=fun b hb=>by rw[d,fU]; simp[gE hb]
 obtain⟨C,H1⟩:=H.grow (w':=w.alloc (.cells #[] e)) r (by simp) rfl rfl rfl h.length
 by_cases y:ys=[]
 ·subst y
  have R:(w.alloc (.cells #[] e)).heap[w.heap.size]?=some (.cells #[] e (0,0)):=by rw[d]; simp
  have l:=yR (P:=P) (w:=w.alloc (.cells #[] e)) T ty e i O hi (g:=w.heap.size) (o:=0) (sLen:=0) (sCap:=0) R (some a) 0 cy [] (by simp) (fun _ _ j u n=>by simp at n) (fun _=>rfl) (fun u W=>by cases W) (by omega) (by simp)
  have f:((w.alloc (.cells #[] e)).setRow w.heap.size ((#[]:Array Value).toList.take (0+0*i.size)++[]++(#[]:Array Value).toList.drop (0+0*i.size+([]:CK Value).length)).toArray).heap=w.heap.push (.cells #[] e (0,0)):=by
   apply Array.ext_getElem?
   intro k
   by_cases s:k=w.heap.size
   ·subst s;rw[setRow_heap _ _ _ _ _ _ R]; simp
   ·rw[setRow_other _ _ _ _ s,d]
  obtain⟨M,L⟩:=Jj (w':=(w.alloc (.cells #[] e)).setRow w.heap.size ((#[]:Array Value).toList.take (0+0*i.size)++[]++(#[]:Array Value).toList.drop (0+0*i.size+([]:CK Value).length)).toArray) H (cap':=0) (g':=0) (t:=c) (xs':=[]) (news:=[]) B m f rfl rfl rfl (by simp) (by simp) ⟨by simp,fun i x hi=>by simp at hi⟩ (fun j v n=>by simp at n);exact⟨w.heap.size,0,_,by simpa using l,cX _,M,L,fun k s=>by rw[f,fU]; simp[gE s],by rw[f]; simp,rfl,rfl,rfl⟩
 ·have E:SR (w.alloc (.cells #[] e)) (Av ν h) c ys (some a) cy:=by
   refine⟨N.1,N.2.imp id ?_⟩;rintro⟨b,off,h1,h2,h3⟩;refine⟨b,off,h1,by simp; omega,fun i x U=>?_⟩;obtain⟨us,h4,Z⟩:=h3 i x U;exact⟨us,CR.keep C.keepA h4,Z.keep (r b h2)⟩
  obtain⟨news,q,I,Y,X,G⟩:=E.flat;have h0:0<ys.length:=eT.2 y
  have p:ys.length*i.bytes<=140737488355328:=by
   have:=fI A K;omega
  have l:=run_append_grow (P:=P) (w.alloc (.cells #[] e)) T ty e i z O hi S ⟨w.heap.size,0,none⟩ 0 0 [] (by simp) (fun j v n=>by simp at n) a ys.length cy news (by rw[F]; exact q) (I a rfl) (by omega) (by omega) (growslice_fits (by omega) (by simpa using p));have J:=grownCap_ge (w.alloc (.cells #[] e)) (0+ys.length) 0 e
  obtain⟨M,L⟩:=Jj (w:=w.alloc (.cells #[] e)) (w':=(w.alloc (.cells #[] e)).drew.alloc (.cells (([]:CK Value).toArray++news.toArray++Builtin.zeroCells z.cells (grownCap (w.alloc (.cells #[] e)) (0+ys.length) 0 e-(0+ys.length))) e))
   H1 (cap':=grownCap (w.alloc (.cells #[] e)) (0+ys.length) 0 e) (g':=0) (t:=c) (xs':=ys) (news:=news) B m rfl rfl rfl rfl (by simpa using J) (by
    simp only[Array.size_append,fP,size_zeroCells,D,q,<-dE];simp only[dK,dH,<-dE]
    apply dB; omega) ⟨q,G⟩ (fun j v n=>by
     rw[<-fE] at n;have:=(fA.1 n).1;simp only[gL,d8];rw[f8,if_pos this]
     exact n)
  have hb:∀k,k<w.heap.size->((w.alloc (.cells #[] e)).drew.alloc (.cells (([]:CK Value).toArray++news.toArray++Builtin.zeroCells z.cells (grownCap (w.alloc (.cells #[] e)) (0+ys.length) 0 e-(0+ys.length))) e)).heap[k]?=w.heap[k]?:=fun k s=>by
   show(((w.alloc (.cells #[] e)).heap.push _))[k]?=_;rw[fU,if_neg (by simp; omega)];exact r k s
  exact⟨_,_,_,by simpa using l,by simp,C.trans M (cX _),L,hb,by show w.heap.size<=((w.heap.push _).push _).size; simp; omega,rfl,rfl,rfl⟩
def amJ (d:Nat) (o:Oper):BY Op:=match o.guard,o.dst with
 |none,some a=>match Nat.beq a d with
  |true=>some o.op
  |false=>none
 |_,_=>none
def aea:Operand->Bool
 |.const (.slice none 0 0)=>true
 |_=>false
def Z7 (i:Nat):Operand->Bool
 |.tmp j=>Nat.beq j i
 |_=>false
def U5 (d:Nat) (o:Oper):Bool:=match amJ d o with
 |some (.assign x)=>aea x
 |_=>false
def afq (d i:Nat) (o:Oper):Bool:=match amJ d o with
 |some (.move x)=>Z7 i x
 |_=>false
def aeM (d i:Nat) (o:Oper):Bool:=match amJ d o with
 |some (.assign x)=>Z7 i x
 |_=>false
def alL (T d i:Nat) (o:Oper):Bool:=match amJ d o with
 |some (.binOp .eql t x y _)=>Nat.beq t T&&(Z7 i x&&aea y)
 |_=>false
def Xp (T d:Nat) (o:Oper):Bool:=match amJ d o with
 |some (.buildSlice t 0 ps)=>Nat.beq t T&&ps.toList.isEmpty
 |_=>false
def Xw (T d i j:Nat) (o:Oper):Bool:=match amJ d o with
 |some (.call ⟨.builtin .append,as,ts⟩)=>match as.toList,ts.toList with
  |[x,y],[t,u]=>Z7 i x&&(Z7 j y&&(Nat.beq t T&&Nat.beq u T))
  |_,_=>false
 |_=>false
def Kg (fn:Func) (T:Nat):Bool:=match fn.body with
 |some (.seq (.region _ a0 false) (.seq (.seq (.region _ l false) (.cond c (.seq (.region _ k false) .ret) .skip)) (.seq (.region _ a3 false) .ret))) =>
  match a0.toList,l.toList,k.toList,a3.toList with
  |[j],[i,g],[f],[e,d,b,a] =>
   Z7 4 c&&(U5 2 j&&(afq 3 0 i&&(alL T 4 3 g&&(U5 2 f&&(Xp T 5 e&&(afq 6 0 d&&(Xw T 7 5 6 b&&(aeM 2 7 a&&(Nat.beq fn.ntmps 8&&match fn.results.toList with
    |[.tmp r]=>Nat.beq r 2
    |_=>false)))))))))
  |_,_,_,_=>false
 |_=>false
omit [Ghost] in
def vJ {d:Nat} {o:Oper} {op:Op} (a:amJ d o=some op):o.guard=none/\o.dst=some d/\o.op=op:=by
 unfold amJ at a
 split at a<;>try (cases a; done)
 rename_i c b h2
 split at a<;>try (cases a; done)
 rename_i hb;cases a;exact⟨b,by rw[h2,dq hb],rfl⟩
omit [Ghost] in
def Qd {x:Operand} (a:aea x=true):x=.const (.slice none 0 0):=by
 unfold aea at a; split at a<;>first|rfl|cases a
omit [Ghost] in
def ri {i:Nat} {x:Operand} (a:Z7 i x=true):x=.tmp i:=by
 unfold Z7 at a; split at a
 ·rw[dq a]
 ·cases a
omit [Ghost] in
def Q7 {d:Nat} {o:Oper} (a:U5 d o=true):o.guard=none/\o.dst=some d/\o.op=.assign (.const (.slice none 0 0)):=by
 unfold U5 at a; split at a<;>try (cases a; done)
 rename_i x b;rw[Qd a] at b; exact vJ b
omit [Ghost] in
def TL {d i:Nat} {o:Oper} (a:afq d i o=true):o.guard=none/\o.dst=some d/\o.op=.move (.tmp i):=by
 unfold afq at a; split at a<;>try (cases a; done)
 rename_i x b;rw[ri a] at b; exact vJ b
omit [Ghost] in
def acA {d i:Nat} {o:Oper} (a:aeM d i o=true):o.guard=none/\o.dst=some d/\o.op=.assign (.tmp i):=by
 unfold aeM at a; split at a<;>try (cases a; done)
 rename_i x b;rw[ri a] at b; exact vJ b
omit [Ghost] in
def afZ {T d i:Nat} {o:Oper} (a:alL T d i o=true):o.guard=none/\o.dst=some d/\∃u,o.op=.binOp .eql T (.tmp i) (.const (.slice none 0 0)) u:=by
 unfold alL at a; split at a<;>try (cases a; done)
 rename_i t x y u b;simp only[cW] at a;rw[dq a.1,ri a.2.1,Qd a.2.2] at b;obtain⟨e,h2,c⟩:=vJ b;exact⟨e,h2,u,c⟩
omit [Ghost] in
def aaM {T d:Nat} {o:Oper} (a:Xp T d o=true):o.guard=none/\o.dst=some d/\o.op=.buildSlice T 0 #[]:=by
 unfold Xp at a; split at a<;>try (cases a; done)
 rename_i t ps b;simp only[cW] at a
 have:ps=#[]:=by
  apply fo;simpa using a.2
 rw[dq a.1,this] at b;exact vJ b
omit [Ghost] in
def aaQ {T d i j:Nat} {o:Oper} (a:Xw T d i j o=true):o.guard=none/\o.dst=some d/\o.op=.call ⟨.builtin .append,#[.tmp i,.tmp j],#[T,T]⟩:=by
 unfold Xw at a; split at a<;>try (cases a; done)
 rename_i as ts b
 split at a<;>try (cases a; done)
 rename_i x y t u k h2;simp only[cW] at a;obtain⟨g,f,e,c⟩:=a
 have ha:as=#[.tmp i,.tmp j]:=by
  apply fo; rw[k,ri g,ri f]
 have hb:ts=#[T,T]:=by
  apply fo; rw[h2,dq e,dq c]
 rw[ha,hb] at b;exact vJ b
omit [Ghost] in
def QI {fn:Func} {T:Nat} (b:Kg fn T=true):∃n r1 r2 m l k j i g f e d,
 fn.body=some (.seq (.region n #[l] false) (.seq (.seq (.region r1 #[k,j] false) (.cond (.tmp 4) (.seq (.region r2 #[i] false) .ret) .skip)) (.seq (.region m #[g,f,e,d] false) .ret))) /\
 U5 2 l=true/\afq 3 0 k=true/\alL T 4 3 j=true/\U5 2 i=true/\Xp T 5 g=true/\afq 6 0 f=true/\Xw T 7 5 6 e=true/\aeM 2 7 d=true/\fn.ntmps=8/\fn.results=#[.tmp 2]:=by
 unfold Kg at b
 split at b<;>try (cases b; done)
 rename_i n a0 r1 H c r2 G m a3 hb
 split at b<;>try (cases b; done)
 rename_i l k j i g f e d h0 A h2 z;simp only[cW] at b;obtain⟨k0,k1,x,v,u,t,s,q,p,o,a⟩:=b
 split at a<;>try (cases a; done)
 rename_i r y;have F:a0=#[l]:=fo h0;have E:H=#[k,j]:=fo A;have D:G=#[i]:=fo h2;have C:a3=#[g,f,e,d]:=fo z
 have B:fn.results=#[.tmp 2]:=by
  apply fo; rw[y,dq a]
 exact⟨n,r1,r2,m,l,k,j,i,g,f,e,d,by rw[hb,F,E,D,C,ri k0],k1,x,v,u,t,s,q,p,dq o,B⟩
omit [Ghost] in
def tq {b:Array Oper} {i d:Nat} {o:Oper} {u:Value} {w':World} {a:Act} {next:Act->World->Prop} {Q:Exit->Act->World->Prop} (f:b[i]?=some o) (g:o.guard=none) (hd:o.dst=some d)
 (c:(execOp a.eval o).run P w=.ok (.value u) w') (k:next (a.put (some d) u) w'):wpOpIn Fence.wide 0 P b Q i next a w:=by
 unfold wpOpIn;rw[f]
 have e:Region.wanted o (yielded b a.tmps)=true:=by simp[Region.wanted,g]
 simp only[e,if_true];refine⟨fun _ _=>trivial,?_⟩;rw[show Fence.wide.round=none from rfl,Oper.semAt_none,c];rw[<-hd] at k;exact k
def CG {g T:Nat} {fn:Func} (l:P.funcs[g]?=some fn) (hs:Kg fn T=true) (hp:fn.params[0]?=some T) {fz:Bool} {S d:St} {nid:Nat} {x v:AV}
 (e:BF P g fz S nid x (fun v S=>some (v,S))=some (v,d)) {u:Value} (H:HR ν S.h w) (hx:VR ν S.h w x u) (D:nid<S.h.length) (hd:lkB S.h nid=.dead) :
 (∃fn c,P.funcs[g]?=some fn/\fn.body=some c) /\
 CallsIn Fence.wide 0 P g #[u] w fun e w'=>∃ν' u',e=.returned u'/\VR ν' d.h w' v u'/\HR ν' d.h w'/\Ev S.h.length ν S.h w ν' d.h w'/\S.h.length<=d.h.length/\Ų nid S.h d.h/\d.t=S.t:=by
 obtain⟨r0,r1,r2,r3,o0,o1,o2,o3,o4,o5,O,o7,hb,k0,k1,k2,k3,k4,k5,k6,k7,hnt,y⟩:=QI hs;refine⟨⟨fn,_,l,hb⟩,?_⟩;unfold BF at e;rw[l] at e;simp only[hp,Option.bind_some] at e
 split at e<;>try (cases e; done)
 rename_i G hel
 split at e<;>try (cases e; done)
 rename_i ety hety
 split at e<;>try (cases e; done)
 rename_i s;obtain⟨i,z,hi,Z,A,hby,hz,Q⟩:=vy s
 split at e<;>try (cases e; done)
 rename_i ys U
 split at e<;>try (cases e; done)
 rename_i m
 have m:ys.length<=4294967296:=by simpa[ä] using m
 obtain⟨j,cy,rfl,q⟩:=an3 H hx U;have Y:=rq hel;obtain⟨g0,d0,p0⟩:=Q7 k0;obtain⟨g1,d1,p1⟩:=TL k1;obtain⟨g2,d2,u2,p2⟩:=afZ k2;obtain⟨g3,d3,p3⟩:=Q7 k3;obtain⟨g4,d4,p4⟩:=aaM k4;obtain⟨g5,d5,p5⟩:=TL k5;obtain⟨g6,d6,p6⟩:=aaQ k6;obtain⟨g7,d7,p7⟩:=acA k7;refine callsIn_of_wp l hb trivial ?_;simp only[hnt,fP,di,dK,Nat.reduceAdd,Nat.reduceSub,Array.replicate_succ,Array.replicate_zero,List.push_toArray,gL,d8,fe]
 have fin:∀{a:Act} {w':World} {ν':Nat->Value} {u':Value},a.tmps.getD 2 undef=u'->a.defers=[]->VR ν' d.h w' v u'->HR ν' d.h w'->Ev S.h.length ν S.h w ν' d.h w'->S.h.length<=d.h.length->Ų nid S.h d.h->d.t=S.t ->
  bodyPost P fn (fun e w'=>∃ν' u',e=.returned u'/\VR ν' d.h w' v u'/\HR ν' d.h w'/\Ev S.h.length ν S.h w ν' d.h w'/\S.h.length<=d.h.length/\Ų nid S.h d.h/\d.t=S.t) .ret a w':=by
  intro a w' ν' u' F N p M L q6 K J;exact bodyPost_ret (v:=u') (by rw[results_tmp y,F]) N ⟨ν',u',rfl,p,M,L,q6,K,J⟩
 refine wpIn_seq (wpIn_region ?_);rw[show List.range (#[o0]:Array Oper).size=[0] from rfl,wpOpsIn_cons];refine tq (o:=o0) (u:=.slice none 0 0) (w':=w) rfl g0 d0 (by unfold execOp; rw[p0]; rfl) ?_;refine wpIn_seq (wpIn_seq (wpIn_region ?_));rw[show List.range (#[o1,o2]:Array Oper).size=[0,1] from rfl,wpOpsIn_cons];refine tq (o:=o1) (u:=.slice j ys.length cy) (w':=w) rfl g1 d1 (by unfold execOp; rw[p1]; rfl) ?_;rw[wpOpsIn_cons]
 refine tq (o:=o2) (u:=.bool j.isNone) (w':=w) rfl g2 d2 (by
  unfold execOp; rw[p2];have h1:=Lib.run_eql_slice_nil (P:=P) w T G j ys.length cy 0 0 Y
  have h2:(eqGuard .eql T (.tmp 3) (.const (.slice none 0 0)) (.slice j ys.length cy) (.slice none 0 0)).run P w=.ok () w:=by simp[eqGuard]
  show((do let u <-(do eqGuard .eql T (.tmp 3) (.const (.slice none 0 0)) (.slice j ys.length cy) (.slice none 0 0); binOp .eql T (.slice j ys.length cy) (.slice none 0 0)); pure (.value u)):Sem Next).run P w=_
  simp only[Sem.run_bind,h1,h2,Result.andThen_ok]; rfl) ?_
 cases j with
 |none =>
  have W:ys=[]:=by
   rcases q.2 with W|⟨b,off,l,_⟩
   ·exact W
   ·cases l
  subst W;refine wpIn_cond_true rfl (wpIn_seq (wpIn_region ?_));rw[show List.range (#[o3]:Array Oper).size=[0] from rfl,wpOpsIn_cons];refine tq (o:=o3) (u:=.slice none 0 0) (w':=w) rfl g3 d3 (by unfold execOp; rw[p3]; rfl) ?_;refine wpIn_ret ?_
  cases fz with
  |true =>
   cases e;exact fin (ν':=ν) (u':=.slice none 0 0) rfl rfl ⟨none,0,rfl,cX _,.inl rfl⟩ H (Ev.refl _ _ _ _) (cX _) (Ų.refl _ _) rfl
  |false =>
   cases e;obtain⟨ev,I⟩:=Vm (g':=0) (t:=ety) H D (fun V=>by rw[hd]; trivial);exact fin rfl rfl (zP D rfl) I ev (by rw[á]; exact cX _) (Ų.upd _ (.inl rfl)) rfl
 |some a =>
  refine wpIn_cond_false rfl (wpIn_skip ?_);refine wpIn_seq (wpIn_region ?_);rw[show List.range (#[o4,o5,O,o7]:Array Oper).size=[0,1,2,3] from rfl,wpOpsIn_cons]
  refine tq (o:=o4) (u:=.slice (some ⟨w.heap.size,0,none⟩) 0 0) (w':=w.alloc (.cells #[] G)) rfl g4 d4 (by
   unfold execOp; rw[p4];have:=CP (P:=P) w T G i z Y hi hz
   simp only[List.map_toArray,fu,Sem.run_bind,this,Result.andThen_ok]; rfl) ?_
  rw[wpOpsIn_cons];refine tq (o:=o5) (u:=.slice (some a) ys.length cy) (w':=w.alloc (.cells #[] G)) rfl g5 d5 (by unfold execOp; rw[p5]; rfl) ?_;rw[wpOpsIn_cons];obtain⟨b,cap,w2,r,hge,ev,I,E,R,ho,X,B⟩:=af7 (nid:=nid) H T O.type Y hi hz Z A hby Q D hd q m
  refine tq (o:=O) (u:=.slice (some ⟨b,0,none⟩) ys.length cap) (w':=w2) rfl g6 d6 (by
   rw[me (S:=S) (f:=Builtin.append_) p6 (fun _ _=>rfl)];simp only[List.map_toArray,eV,fu]
   erw [Sem.run_bind,r]; rfl) ?_
  rw[wpOpsIn_cons];refine tq (o:=o7) (u:=.slice (some ⟨b,0,none⟩) ys.length cap) (w':=w2) rfl g7 d7 (by unfold execOp; rw[p7]; rfl) ?_;refine wpIn_ret ?_
  cases fz with
  |true =>
   cases e;obtain⟨ev2,H3⟩:=H.grow E R ho X B S.h.length;refine fin (ν':=ν) (u':=.slice (some ⟨b,0,none⟩) ys.length cap) (by simp[Act.put]) rfl ?_ H3 ev2 (cX _) (Ų.refl _ _) rfl;have hB:=I.blk nid;rw[ñ _ D] at hB;obtain⟨base,cap',F,N,p⟩:=hB;rw[Ý] at F;cases F;refine⟨_,_,rfl,N,?_⟩;rcases p with⟨p,_⟩|⟨b',off,c,e',M,L,q6,K⟩
   ·cases p
   ·cases M;refine .inr ⟨b,0,rfl,fun l=>by have:=H.ltA l; omega,ħ L,fun i x hi=>?_⟩;obtain⟨us,J,q9⟩:=K i x hi;refine⟨us,J.mono (fun k E=>?_),q9⟩;rcases E with⟨id,n,hk2⟩|E
    ·have C:id≠nid:=fun l=>by rw[l,hd] at n; cases n
     exact .inl ⟨id,by rw[Ù _ C]; exact n,by rw[ľ _ _ C]; exact hk2⟩
    ·exact .inr E
  |false =>
   cases e;exact fin (u':=.slice (some ⟨b,0,none⟩) ys.length cap) (by simp[Act.put]) rfl (zP D rfl) I ev (by rw[á]; exact cX _) (Ų.upd _ (.inl rfl)) rfl
end
end Go.Am
end

noncomputable section
namespace Go.Am
structure agO where
 ty:Ty
 ts:CK Ty
 clo:Nat
 mt:Ty
 F:CK (Val ty)->Val (tyL ts)->Val mt->BY (CK (Val ty)×Val mt)
def acX:CK AV->BY (CK AV×AV)
 |[]=>none
 |[a]=>some ([],a)
 |a::l=>match acX l with
  |some (m,b)=>some (a::m,b)
  |none=>none
section
variable {ρ:Type}
def rowX (r:agO) (h:CK Blk) (b:CK AV) (K:AV->CK Blk->BY ρ):BY ρ :=
 match b with
 |.own id g::as=>match acX as with
  |some (ds,.fn (.func c) [] [.box bid 0])=>match Nat.beq c r.clo&&!Nat.beq id bid with
   |true=>match lkB h id with
    |.row t g' false xs=>match g==g' with
     |true=>match decEq t r.ty with
      |isTrue e=>match lkB h bid with
       |.cells cs=>match cs.all fun a=>!FQ a with
        |true=>match FO h r.ts ds with
         |some x=>match (aca r.ts x).all plain with
          |true=>match Ü r.mt cs with
           |some m=>Å (r.F (BH (F:=fun t=>CK (Val t)) e xs) x m) fun z=>K (.tup []) (Đ (Đ h id (.row r.ty g' false z.1)) bid (.cells (flat r.mt z.2)))
           |none=>none
          |false=>none
         |none=>none
        |false=>none
       |_=>none
      |isFalse _=>none
     |false=>none
    |_=>none
   |false=>none
  |_=>none
 |_=>none
def EL (r:agO) (x:Val (tyL r.ts)):CK AV:=.own 0 0::(aca r.ts x++[.fn (.func r.clo) [] [.box 1 0]])
def lB (r:agO) (xs:CK (Val r.ty)) (m:Val r.mt):CK Blk:=[.row r.ty 0 false xs,.cells (flat r.mt m)]
def Np (r:agO) (K:CK (Val r.ty)->Val r.mt->BY ρ) (v:AV) (h:CK Blk):BY ρ :=
 match v with
 |.tup []=>match lkB h 0 with
  |.row t 0 false ys=>match decEq t r.ty with
   |isTrue e=>match lkB h 1 with
    |.cells cs=>match cs.all fun a=>!FQ a with
     |true=>match Ü r.mt cs with
      |some m=>K (BH (F:=fun t=>CK (Val t)) e ys) m
      |none=>none
     |false=>none
    |_=>none
   |isFalse _=>none
  |_=>none
 |_=>none
end
structure ams (P:Program) (f:Nat) (r:agO):Prop where
 ok:∀(G:Nat->Prop) (xs:CK (Val r.ty)) (x:Val (tyL r.ts)) (m:Val r.mt) (ys:CK (Val r.ty)) (m2:Val r.mt),r.F xs x m=some (ys,m2) ->
 ∀(ν:Nat->Value) (w:World) (vals:CK Value),@HR (Gh G) ν (lB r xs m) w->ĕ (@VR (Gh G) ν (lB r xs m) w) (EL r x) vals ->
  (∃fn c,P.funcs[f]?=some fn/\fn.body=some c)/\CallsIn Fence.wide 0 P f vals.toArray w fun e w'=>∃ν' h' v u,e=.returned u/\@VR (Gh G) ν' h' w' v u/\@HR (Gh G) ν' h' w'/\Ev 2 ν (lB r xs m) w ν' h' w'/\Np r (fun zs m'=>some (zs,m')) v h'=some (ys,m2)
def Vk {f:Nat} {r:agO} (E:Env (CK (Val r.ty)×Val r.mt)) (a:∀[Ghost],I7 E) (hmix:E.P.follows .mixedOrders=true) {tab:CK (õ (CK (Val r.ty)×Val r.mt))} (j:E.loops=kO tab) (i:∀x∈tab,x.Ok E)
 (law:∀xs x m,xc E (ŧ E 10) [] f (EL r x) (lB r xs m) (Np r fun l o=>some (l,o))=r.F xs x m) (t:E.ranges=Ν []:=by rfl):ams E.P f r:=by
 constructor;intro G xs x m ys I y ν w vals H b
 letI g:Ghost:=Gh G
 have k:=law xs x m;rw[y] at k;have hy:∀[Ghost],lR E:=I7.yld a;have hl:FS E:=MG hmix j i t;have hall:∀n,n<=10->aeX E n:=sQ (fun _=>a) (fun L call j=>ox hmix L call j) hl;have d:∀M,@nH (g.re g.G [] none M) _ E 2 (ŧ E 10):=fun M=>@hall 10 (cX _) (g.re g.G [] none M) (@hy _);obtain⟨z,h2⟩:=yH d (fun M=>@ox (g.re g.G [] none M) _ _ hmix _ _ (d M)) (path:=[]) rfl (fun M fn c q s=>@hl 10 (cX _) (hall 10 (cX _)) (g.re g.G [] none M) (@hy _) [] f fn c rfl q s) k H (dU _) b;refine⟨z,h2.mono fun e w' p=>?_⟩;obtain⟨ν',h',v,u,rfl,D,C,B,K,J,A⟩:=p;exact⟨ν',h',v,u,rfl,D,C,B,A⟩
section
variable [Ghost] {ν ν':Nat->Value} {h h':CK Blk} {w w':World} {P:Program}
def upd2 (H:HR ν h w) {i j:Nat} {A B:Blk} {U V:Value} (J:i≠j) (hi:i<h.length) (hj:j<h.length) (S:w'.os=w.os) (y:w'.tape=w.tape) (I:w'.output=w.output)
 (o:w.heap.size<=w'.heap.size)
 (s:∀b,b<w.heap.size->((lkB h i).live=true->¬ř (ν i) b)->((lkB h j).live=true->¬ř (ν j) b)->w'.heap[b]?=w.heap[b]?)
 (hU:A.live=true->∀b,ř U b->((lkB h i).live=true/\ř (ν i) b)\/((lkB h j).live=true/\ř (ν j) b)\/w.heap.size<=b)
 (hV:B.live=true->∀b,ř V b->((lkB h i).live=true/\ř (ν i) b)\/((lkB h j).live=true/\ř (ν j) b)\/w.heap.size<=b)
 (x:A.live=true->B.live=true->∀b,ř U b->ř V b->False)
 (W:(lkB h i).next ν (ď (ď ν i U) j V) i A) (T:(lkB h j).next ν (ď (ď ν i U) j V) j B)
 (Z:Ev h.length ν h w (ď (ď ν i U) j V) (Đ (Đ h i A) j B) w'->BR (ď (ď ν i U) j V) (Đ (Đ h i A) j B) w' i A)
 (Y:Ev h.length ν h w (ď (ď ν i U) j V) (Đ (Đ h i A) j B) w'->BR (ď (ď ν i U) j V) (Đ (Đ h i A) j B) w' j B) :
 Ev h.length ν h w (ď (ď ν i U) j V) (Đ (Đ h i A) j B) w'/\HR (ď (ď ν i U) j V) (Đ (Đ h i A) j B) w':=by
 have G:lkB (Đ (Đ h i A) j B) i=A:=by rw[Ù _ J,ñ _ hi]
 have F:lkB (Đ (Đ h i A) j B) j=B:=ñ _ (by rw[á]; exact hj)
 have lo:∀{m},m≠i->m≠j->lkB (Đ (Đ h i A) j B) m=lkB h m:=fun c h2=>by rw[Ù _ h2,Ù _ c]
 have Q:ď (ď ν i U) j V i=U:=by rw[ľ _ _ J,Ý]
 have O:ď (ď ν i U) j V j=V:=Ý _ _ _
 have E:∀{m},m≠i->m≠j->ď (ď ν i U) j V m=ν m:=fun c h2=>by rw[ľ _ _ h2,ľ _ _ c]
 -- who owns a block now owned it, or it is new
 have own:∀m b,(lkB (Đ (Đ h i A) j B) m).live=true->ř (ď (ď ν i U) j V m) b ->
  (∃q,(lkB h q).live=true/\ř (ν q) b/\(q=m\/((q=i\/q=j)/\(m=i\/m=j))))\/(w.heap.size<=b/\(m=i\/m=j)):=by
  intro m b f hb
  by_cases c:m=i
  ·subst c;rw[G] at f; rw[Q] at hb;rcases hU f b hb with h2|h2|h2
   ·exact .inl ⟨m,h2.1,h2.2,.inl rfl⟩
   ·exact .inl ⟨j,h2.1,h2.2,.inr ⟨.inr rfl,.inl rfl⟩⟩
   ·exact .inr ⟨h2,.inl rfl⟩
  ·by_cases h2:m=j
   ·subst h2;rw[F] at f; rw[O] at hb;rcases hV f b hb with h2|h2|h2
    ·exact .inl ⟨i,h2.1,h2.2,.inr ⟨.inl rfl,.inr rfl⟩⟩
    ·exact .inl ⟨m,h2.1,h2.2,.inl rfl⟩
    ·exact .inr ⟨h2,.inr rfl⟩
   ·rw[lo c h2] at f; rw[E c h2] at hb;exact .inl ⟨m,f,hb,.inl rfl⟩
 have ev:Ev h.length ν h w (ď (ď ν i U) j V) (Đ (Đ h i A) j B) w':=by
  refine⟨S,y,I,o,fun b hb l=>⟨s b hb (fun f K=>l ⟨i,f,K⟩) (fun f K=>l ⟨j,f,K⟩),?_⟩,fun m p=>?_⟩
  ·rintro⟨m,f,K⟩;rcases own m b f K with⟨q,c,h2,_⟩|⟨c,_⟩
   ·exact l ⟨q,c,h2⟩
   ·omega
  ·by_cases c:m=i
   ·subst c; rw[G]; exact W
   ·by_cases h2:m=j
    ·subst h2; rw[F]; exact T
    ·rw[lo c h2]
     cases hB:lkB h m with
     |dead=>trivial
     |cells cs=>exact⟨⟨cs,rfl⟩,E c h2⟩
     |row t g fz xs=>exact⟨g,fz,xs,rfl,cX _,fun _=>⟨E c h2,rfl⟩⟩
     |map k v es=>exact⟨⟨es,rfl⟩,E c h2⟩
     |acc t xs=>exact⟨xs,rfl⟩
 refine⟨ev,fun m=>?_,fun m n b p l e d=>?_,fun b hb=>dr (H.ghlt b hb) o,fun m b f hb hg=>?_⟩
 ·by_cases c:m=i
  ·subst c; rw[G]; exact Z ev
  ·by_cases h2:m=j
   ·subst h2; rw[F]; exact Y ev
   ·rw[lo c h2];refine BR.ev ev (H.nd ev) (E c h2) (fun b f hb X=>s b X (fun z C=>c (H.inj m i b f z hb C)) (fun z C=>h2 (H.inj m j b f z hb C))) (H.blk m)
 ·-- one owner alone
  have hd:∀{m n b},(m=i\/m=j)->(n=i\/n=j)->(lkB (Đ (Đ h i A) j B) m).live=true->(lkB (Đ (Đ h i A) j B) n).live=true->ř (ď (ď ν i U) j V m) b->ř (ď (ď ν i U) j V n) b->m=n:=by
   intro m n b c h2 p l e d
   rcases c with rfl|rfl<;>rcases h2 with rfl|rfl
   ·rfl
   ·rw[G] at p; rw[F] at l; rw[Q] at e; rw[O] at d;exact(x p l b e d).elim
   ·rw[F] at p; rw[G] at l; rw[O] at e; rw[Q] at d;exact(x l p b d e).elim
   ·rfl
  rcases own m b p e with⟨q,c,h2,N⟩|⟨c,N⟩
  ·rcases own n b l d with⟨r,L,h5,u⟩|⟨L,u⟩
   ·have R:=H.inj q r b c L h2 h5;subst R;rcases N with rfl|⟨N,M⟩
    ·rcases u with rfl|⟨u,D⟩
     ·rfl
     ·exact hd u D p l e d
    ·rcases u with rfl|⟨u,D⟩
     ·exact hd M N p l e d
     ·exact hd M D p l e d
   ·have:=H.lt ⟨q,c,h2⟩; omega
  ·rcases own n b l d with⟨r,L,h5,u⟩|⟨L,u⟩
   ·have:=H.lt ⟨r,L,h5⟩; omega
   ·exact hd N u p l e d
 ·rcases own m b f hb with⟨q,c,h2,_⟩|⟨c,_⟩
  ·exact H.ghne q b c h2 hg
  ·have:=H.ghlt b hg; omega
end
section
variable [Ghost] {ρ:Type} {ν:Nat->Value} {h:CK Blk} {w:World} {P:Program}
def Ni:∀{l m:CK AV} {b:AV},acX l=some (m,b)->l=m++[b]
 |[],_,_,e=>by cases e
 |[a],_,_,e=>by cases e; rfl
 |a::c::l,m,b,e=>by
  simp only[acX] at e
  split at e<;>try (cases e; done)
  rename_i f g d;cases e;rw[Ni d];rfl
def US (H:HR ν h w) {cs:CK AV} (hd:(cs.all fun a=>!FQ a)=true) {us:CK Value} (c:ĕ (VRc ν h w) cs us):ĕ (VRs w (Av ν h)) cs us :=
 ĕ.mono (fun _ _ b=>VR1.data b.1) c
def AL.plainG {G b:Nat->Prop}:∀{l:CK Ty} {x:Val (tyL l)} {vs:CK Value},(aca l x).all plain=true->AL w G l x vs->AL w b l x vs
 |[],_,_,_,h=>h
 |_::_,_,_,a,h=>AT.plain a h
def anZ {f:Nat} {r:agO} (hr:ams P f r):agH P f (rowX (ρ:=ρ) r):=by
 intro h args K res e ν w vals H N;unfold rowX at e
 split at e<;>try (cases e; done)
 rename_i id g as
 split at e<;>try (cases e; done)
 rename_i ds c bid hsp
 split at e<;>try (cases e; done)
 rename_i T;simp only[cW,eJ] at T;obtain rfl:=dq T.1
 have R:id≠bid:=fun q=>by rw[q,Nat.beq_refl] at T; exact absurd T.2 (by simp)
 split at e<;>try (cases e; done)
 rename_i t g' xs hl
 split at e<;>try (cases e; done)
 rename_i S
 obtain rfl:g=g':=by simpa using S
 split at e<;>try (cases e; done)
 rename_i hty _;subst hty
 split at e<;>try (cases e; done)
 rename_i cs M
 split at e<;>try (cases e; done)
 rename_i hcs
 split at e<;>try (cases e; done)
 rename_i x hx
 split at e<;>try (cases e; done)
 rename_i hpl
 split at e<;>try (cases e; done)
 rename_i m hm;simp only[Å] at e
 split at e<;>try (cases e; done)
 rename_i z hys;obtain⟨ys,m2⟩:=z
 replace hys:r.F xs x m=some (ys,m2):=hys
 have has:=Ni hsp;subst has
 -- the arguments
 cases vals with
 |nil=>exact N.elim
 |cons u0 us =>
 obtain⟨hu0,hus⟩:=N;obtain⟨us1,us2,rfl,hds,hfn⟩:=hus.split;obtain⟨uf,rfl,huf⟩:=hfn.one
 have Z:u0=ν id:=by
  obtain⟨_,t2,g2,fz2,xs2,hl2,_,hq⟩:=hu0;rw[hl] at hl2;cases hl2;exact hq rfl
 obtain⟨fs,cps,rfl,hfs,hcps⟩:=huf
 have d:(lkB h id).live=true:=by rw[hl]; rfl
 have l:(lkB h bid).live=true:=by rw[M]; rfl
 have hidl:id<h.length:=lq hl (by simp);have hbl:bid<h.length:=lq M (by simp);have hB:=H.blk id;rw[hl] at hB;have hC:=H.blk bid;rw[M] at hC
 -- the frame
 obtain⟨E,O⟩:∃E:Nat->Prop,E=fun b=>Av ν h b/\¬ř (ν id) b/\¬ř (ν bid) b:=⟨_,rfl⟩
 obtain⟨s,Y⟩:∃s:Nat->Value,s=fun n=>if n=0 then ν id else if n=1 then ν bid else undef:=⟨_,rfl⟩
 have X:s 0=ν id:=by rw[Y]; rfl
 have n1:s 1=ν bid:=by rw[Y]; rfl
 have hAv:∀b,@Av (Gh E) s (lB r xs m) b->Av ν h b:=by
  rintro b (⟨i,hi,p⟩|S)
  ·match i,hi,p with
   |0,_,p=>rw[X] at p; exact .inl ⟨id,d,p⟩
   |1,_,p=>rw[n1] at p; exact .inl ⟨bid,l,p⟩
   |i+2,hi,_=>cases hi
  ·have L:E b:=S;rw[O] at L;exact L.1
 obtain⟨bb,cb,eb,hc1,hc2,hc3⟩:=hC;have hcr:CR w (Av ν h) r.mt m cb.toList:=Ĥ hm (US H hcs hc3);have hx0:AL w (fun _=>False) r.ts x us1:=I6 H hds (fun a _ c _ u hu=>F0 H hu) (fun _ _ _ _ _ _=>⟨fun _ _ hf=>hf,fun c _ u hu=>F0 H hu⟩) hx;have hx1:AL w (@Av (Gh E) s (lB r xs m)) r.ts x us1:=AL.plainG hpl hx0
 have H0:@HR (Gh E) s (lB r xs m) w:=by
  refine @HR.mk (Gh E) _ _ _ (fun i=>?_) (fun i j b hi hj o I=>?_) (fun b hb=>?_) (fun i b hi o S=>?_)
  ·match i with
   |0 =>
    obtain⟨base,cap,D,G,Q⟩:=hB;refine⟨base,cap,X.trans D,G,Q.imp (fun z=>z) fun⟨b,off,c,e',q4,q5,q6,q7⟩=>⟨b,off,c,e',q4,q5,q6,fun i y hy=>?_⟩⟩;obtain⟨us,q8,q9⟩:=q7 i y hy;exact⟨us,CR.mono hAv q8,q9⟩
   |1=>exact⟨bb,cb,eb,n1.trans hc1,hc2,@nf (Gh E) s (lB r xs m) w _ _ _ (CR.mono hAv hcr)⟩
   |i+2=>exact trivial
  ·match i,j,hi,hj,o,I with
   |0,0,_,_,_,_=>rfl
   |1,1,_,_,_,_=>rfl
   |0,1,_,_,o,I=>rw[X] at o; rw[n1] at I; exact absurd (H.inj id bid b d l o I) R
   |1,0,_,_,o,I=>rw[n1] at o; rw[X] at I; exact absurd (H.inj id bid b d l I o) R
   |i+2,_,hi,_,_,_=>cases hi
   |_,j+2,_,hj,_,_=>cases hj
  ·have hb':E b:=hb;rw[O] at hb';exact H.ltA hb'.1
  ·have L:E b:=S;rw[O] at L
   match i,hi,o with
   |0,_,o=>rw[X] at o; exact L.2.1 o
   |1,_,o=>rw[n1] at o; exact L.2.2 o
   |i+2,hi,_=>cases hi
 have W:ĕ (@VR (Gh E) s (lB r xs m) w) (EL r x) (u0::(us1++[.func (.func r.clo) fs cps])):=by
  refine⟨⟨?_,r.ty,0,false,xs,rfl,cX _,fun _=>Z.trans X.symm⟩,(@AL.VR (Gh E) s (lB r xs m) w _ _ _ hx1).append ⟨⟨fs,cps,rfl,?_,?_⟩,trivial⟩⟩
  ·rw[Z];obtain⟨base,cap,D,_⟩:=hB;rw[D]; rfl
  ·rw[hfs.nil_left]; trivial
  ·obtain⟨uc,hu1,hu2⟩:=hcps.one;rw[hu1];refine⟨?_,trivial⟩;obtain⟨cs',b',D,G,Q⟩:=hu2;exact⟨flat r.mt m,b',rfl,n1.trans G,Q⟩
 obtain⟨hbody,hcall⟩:=hr.ok E xs x m ys m2 hys s w _ H0 W;refine⟨hbody,hcall.mono fun en w' hw=>?_⟩;obtain⟨ν',h',v,u,rfl,g1,g2,g3,J⟩:=hw
 -- what the run leaves
 unfold Np at J
 split at J<;>try (cases J; done)
 split at J<;>try (cases J; done)
 rename_i t' ys' hl0
 split at J<;>try (cases J; done)
 rename_i hty' _;subst hty'
 split at J<;>try (cases J; done)
 rename_i cs' hl1
 split at J<;>try (cases J; done)
 rename_i hcs'
 split at J<;>try (cases J; done)
 rename_i m' hm';cases J;have nx0:=g3.blk 0 (by omega);rw[show lkB (lB r xs m) 0=.row r.ty 0 false xs from rfl,hl0] at nx0;obtain⟨_,_,_,D,_,Q⟩:=nx0;cases D;obtain⟨v0,hylen⟩:=Q rfl;have nx1:=g3.blk 1 (by omega);rw[show lkB (lB r xs m) 1=.cells (flat r.mt m) from rfl] at nx1;have v1:ν' 1=ν bid:=nx1.2.trans n1;rw[X] at v0;have b0:=@HR.blk (Gh E) _ _ _ g2 0;rw[hl0] at b0;have b1:=@HR.blk (Gh E) _ _ _ g2 1;rw[hl1] at b1
 have lv0:(lkB h' 0).live=true:=by rw[hl0]; rfl
 have lv1:(lkB h' 1).live=true:=by rw[hl1]; rfl
 have C:∀k,ď (ď ν id (ν id)) bid (ν bid) k=ν k:=fun k=>by
  by_cases D:k=bid
  ·rw[D,Ý]
  ·rw[ľ _ _ D]
   by_cases G:k=id
   ·rw[G,Ý]
   ·rw[ľ _ _ G]
 have hAv':∀b,Av (ď (ď ν id (ν id)) bid (ν bid)) (Đ (Đ h id (.row r.ty g false ys')) bid (.cells (flat r.mt m2))) b->@Av (Gh E) ν' h' b:=by
  rintro b (⟨k,hk,p⟩|S)
  ·rw[C] at p
   by_cases D:k=bid
   ·rw[D] at p;exact .inl ⟨1,lv1,by rw[v1]; exact p⟩
   ·rw[Ù _ D] at hk
    by_cases G:k=id
    ·rw[G] at p;exact .inl ⟨0,lv0,by rw[v0]; exact p⟩
    ·rw[Ù _ G] at hk;refine .inr ?_;show E b;rw[O];exact⟨.inl ⟨k,hk,p⟩,fun q=>G (H.inj k id b hk d p q),fun q=>D (H.inj k bid b hk l p q)⟩
  ·refine .inr ?_;show E b;rw[O];exact⟨.inr S,fun q=>H.ghne id b d q S,fun q=>H.ghne bid b l q S⟩
 obtain⟨ev,hr2⟩:=upd2 (w':=w') (A:=.row r.ty g false ys') (B:=.cells (flat r.mt m2)) (U:=ν id) (V:=ν bid) H R hidl hbl g3.os g3.tape g3.output g3.size
  (fun b hb D G=>(g3.keep b hb fun⟨i,hi,p⟩=>by
   match i,hi,p with
   |0,_,p=>rw[X] at p; exact D d p
   |1,_,p=>rw[n1] at p; exact G l p
   |i+2,hi,_=>cases hi).1)
  (fun _ b hb=>.inl ⟨d,hb⟩) (fun _ b hb=>.inr (.inl ⟨l,hb⟩)) (fun _ _ b h1 h2=>R (H.inj id bid b d l h1 h2))
  (by rw[hl]; exact⟨g,false,ys',rfl,cX _,fun _=>⟨C id,hylen⟩⟩)
  (by rw[M]; exact⟨⟨_,rfl⟩,C bid⟩)
  (fun ev=>by
   obtain⟨base,cap,D,G,Q⟩:=b0;refine⟨base,cap,(C id).trans (v0.symm.trans D),G,Q.imp (fun x=>x) fun⟨b,off,c,e',q4,q5,q6,q7⟩=>⟨b,off,c,e',q4,q5,q6,fun i y hy=>?_⟩⟩;obtain⟨us,q8,q9⟩:=q7 i y hy
   exact⟨us,CR.mono hAv' q8,q9⟩)
  (fun ev=>by
   obtain⟨b2,c2,e2,D,G,Q⟩:=b1
   exact⟨b2,c2,e2,(C bid).trans (v1.symm.trans D),G,nf (CR.mono hAv' (Ĥ hm' (@US (Gh E) _ _ _ g2 _ hcs' _ Q)))⟩)
 refine⟨_,_,.tup [],u,rfl,?_,hr2,ev,by rw[á,á]; exact cX _,fun j hj hd=>?_,e⟩
 ·obtain⟨vs,D,G⟩:=g1;exact⟨vs,D,by rw[G.nil_left]; trivial⟩
 ·have j1:j≠bid:=fun q=>by rw[q,M] at hd; cases hd
  have j2:j≠id:=fun q=>by rw[q,hl] at hd; cases hd
  rw[Ù _ j1,Ù _ j2];exact hd
end
inductive aeQ where
 |row (r:agO)
def xK {ρ:Type}:aeQ->CK Blk->CK AV->(AV->CK Blk->BY ρ)->BY ρ
 |.row r=>rowX r
def XOk (P:Program) (f:Nat):aeQ->Prop
 |.row r=>ams P f r
def aem:CK (Nat×aeQ)->Nat->BY aeQ
 |[],_=>none
 |e::l,f=>match Nat.beq e.1 f with
  |true=>some e.2
  |false=>aem l f
def extT {ρ:Type} (a:CK (Nat×aeQ)) (f:Nat):BY (CK Blk->CK AV->(AV->CK Blk->BY ρ)->BY ρ) :=
 match aem a f with
 |some x=>some (xK x)
 |none=>none
def Qu:∀{l:CK (Nat×aeQ)} {f:Nat} {x:aeQ},aem l f=some x->(f,x)∈l
 |[],_,_,e=>by cases e
 |a::l,f,x,e=>by
  simp only[aem] at e
  split at e
  ·rename_i h;cases e;obtain rfl:=dq h;exact .head _
  ·exact .tail _ (Qu e)
def ext_of [Ghost] {ρ:Type} {P:Program} {a:CK (Nat×aeQ)} (b:∀e∈a,XOk P e.1 e.2):∀f X,extT (ρ:=ρ) a f=some X->agH P f X:=by
 intro f X h;unfold extT at h
 split at h<;>try (cases h; done)
 rename_i x c;cases h;have:=b (f,x) (Qu c)
 cases x with
 |row r=>exact anZ this
def mb [Ghost] {ρ:Type} {E:Env ρ} (h:E.ext=fun _=>none):∀f X,E.ext f=some X->agH E.P f X:=fun f X e=>by rw[h] at e; cases e
def Xa [Ghost] {ρ:Type} {P:Program} {E:Env ρ} {a:CK (Nat×aeQ)} (b:∀e∈a,XOk P e.1 e.2) (h:E.ext=extT a) (c:E.P=P:=by rfl):∀f X,E.ext f=some X->agH E.P f X:=fun f X e=>by
 rw[h] at e;rw[c];exact ext_of b f X e
end Go.Am
end

noncomputable section
namespace Go.Am
abbrev ilt (a b:Int):Bool:=decide (a<b)
abbrev ile (a b:Int):Bool:=decide (a<=b)
abbrev igt (a b:Int):Bool:=decide (a>b)
abbrev ige (a b:Int):Bool:=decide (a>=b)
abbrev ieq (a b:Int):Bool:=a==b
abbrev ine (a b:Int):Bool:=a != b
abbrev oQ (a b:Int):Bool:=decide (a=b)
abbrev Õ {α:Type} (l:CK α):Int:=ah2 l.length
abbrev î {α:Type} (l:CK α):Int:=(l.length:Int)
section
variable {ρ:Type}
def ck (n:Int) (f:Int->BY ρ):BY ρ:=f (wr64 n)
def â {α:Type} (l:CK α) (i:Int) (f:α->BY ρ):BY ρ :=
 match decide (0<=i) with
 |true=>match l[i.toNat]? with
  |some e=>f e
  |none=>none
 |false=>none
def Į {α:Type} (l:CK α) (i:Nat) (f:α->BY ρ):BY ρ :=
 match l[i]? with
 |some e=>f e
 |none=>none
def Rh {k v:Ty} (x:Val k) (l:CK (Val k×Val v)) (f:Val v->BY ρ) (g:BY ρ):BY ρ :=
 match tv x l with
 |some y=>f y
 |none=>g
def à (b:Bool) (x:BY ρ):BY ρ:=match b with|true=>x|false=>none
def ifb (b:Bool) (x y:BY ρ):BY ρ:=match b with|true=>x|false=>y
def Yc (x:BY (CK Int)) (f:Int->BY ρ) (n:BY ρ):BY ρ :=
 Å x fun l=>match l.find? (fun e=>e != 0) with
  |some e=>f e
  |none=>n
def N3 {α β:Type} (f:α->BY β):CK α->BY (CK β)
 |[]=>some []
 |a::l=>match f a with
  |some b=>match N3 f l with
   |some m=>some (b::m)
   |none=>none
  |none=>none
def zx (n:Nat):CK Int:=(List.range n).map fun(i:Nat)=>(i:Int)
end
end Go.Am
end
