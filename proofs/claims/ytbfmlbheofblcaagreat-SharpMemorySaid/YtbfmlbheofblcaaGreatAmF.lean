/- lemmas -/
import Derived.Test.YtbfmlbheofblcaaGreatAmD
import Derived.Lib.SliceRun
import Derived.Test.YtbfmlbheofblcaaGreatAmA
import Derived.Test.YtbfmlbheofblcaaGreatAmB
import Derived.Lib.AtoiAll
import Derived.Lib.Bytealg
import Derived.Lib.ItoaNum
import Derived.Lib.Join
import Derived.Lib.Split
import Derived.Lib.Strings
set_option linter.all false
noncomputable section
namespace Go.Am
variable [ë] [Ð]
section
variable {ρ:Type} {ν:Nat->Value} {h:AS Blk} {w:World} {P:Program}
omit [Ð] in
def xT (w:World) (t e:TypeId) (b:TypeInfo) (z:Value) (d:P.underlying t=some (.slice e)) (a:P.info? e=some b) (c:b.zero=some z) :
 (Instr.buildSlice t 0 #[]).run P w=.ok (.slice (some ⟨w.heap.size,0,none⟩) 0 0) (w.alloc (.cells #[] e)):=by
 simp[Instr.buildSlice,run_underlying d,sizeOf,typeInfo,zeroValue,a,c,newRow,Instr.fill];rw[Array.eq_empty_of_size_eq_zero (xs:=Array.map (fun _=>(default:Value)) (Array.range 0)) (by simp)]
def aaY (H:HR ν h w) (T ty:TypeId) {e:TypeId} {i:TypeInfo} {z:Value} (Q:P.underlying T=some (.slice e)) (hi:P.info? e=some i) (U:i.zero=some z) {c:Ty} (G:i.size=c.size) (R:0<c.size)
 (L:i.bytes<=32768) (E:z.cells.size=c.size) {nid:Nat} (C:nid<h.length) (hd:lkB h nid=.dead) {ys:AS (Val c)} {a:Addr} {cy:Nat} (O:SR w (Av ν h) c ys (some a) cy) (B:ys.length<=4294967296) :
 ∃b cap q,(Builtin.append_ #[T,T] ty #[.slice (some ⟨w.heap.size,0,none⟩) 0 0,.slice (some a) ys.length cy]).run P (w.alloc (.cells #[] e))=.ok (.slice (some ⟨b,0,none⟩) ys.length cap) q/\w.heap.size<=b /\
  Ev h.length ν h w (í ν nid (.slice (some ⟨b,0,none⟩) ys.length cap)) (ì h nid (.row c 0 false ys)) q/\HR (í ν nid (.slice (some ⟨b,0,none⟩) ys.length cap)) (ì h nid (.row c 0 false ys)) q /\
  (∀k,k<w.heap.size->q.heap[k]?=w.heap[k]?)/\w.heap.size<=q.heap.size/\q.os=w.os/\q.tape=w.tape/\q.output=w.output:=by
 have m:∀V,(lkB h nid).next ν (í ν nid V) nid (.row c 0 false ys):=fun V=>by rw[hd]; trivial
 have d:(w.alloc (.cells #[] e)).heap=w.heap.push (.cells #[] e (0,0)):=rfl
 have s:∀b,b<w.heap.size->(w.alloc (.cells #[] e)).heap[b]?=w.heap[b]?:=fun b hb=>by rw[d,eG]; simp[fG hb]
 obtain⟨D,H1⟩:=H.grow (w':=w.alloc (.cells #[] e)) s (by simp) rfl rfl rfl h.length
 by_cases A:ys=[]
 ·subst A
  have S:(w.alloc (.cells #[] e)).heap[w.heap.size]?=some (.cells #[] e (0,0)):=by rw[d]; simp
  have l:=mK (P:=P) (w:=w.alloc (.cells #[] e)) T ty e i Q hi (g:=w.heap.size) (o:=0) (sLen:=0) (sCap:=0) S (some a) 0 cy [] (by simp) (fun _ _ j u n=>by simp at n) (fun _=>rfl) (fun u X=>by cases X) (by omega) (by simp)
  have f:((w.alloc (.cells #[] e)).setRow w.heap.size ((#[]:Array Value).toList.take (0+0*i.size)++[]++(#[]:Array Value).toList.drop (0+0*i.size+([]:AS Value).length)).toArray).heap=w.heap.push (.cells #[] e (0,0)):=by
   apply Array.ext_getElem?
   intro k
   by_cases y:k=w.heap.size
   ·subst y;rw[setRow_heap _ _ _ _ _ _ S]; simp
   ·rw[setRow_other _ _ _ _ y,d]
  obtain⟨N,M⟩:=row_new (w':=(w.alloc (.cells #[] e)).setRow w.heap.size ((#[]:Array Value).toList.take (0+0*i.size)++[]++(#[]:Array Value).toList.drop (0+0*i.size+([]:AS Value).length)).toArray) H (cap':=0) (g':=0) (t:=c) (xs':=[]) (news:=[]) C m f rfl rfl rfl (by simp) (by simp) ⟨by simp,fun i x hi=>by simp at hi⟩ (fun j v n=>by simp at n);exact⟨w.heap.size,0,_,by simpa using l,cJ _,N,M,fun k y=>by rw[f,eG]; simp[fG y],by rw[f]; simp,rfl,rfl,rfl⟩
 ·have F:SR (w.alloc (.cells #[] e)) (Av ν h) c ys (some a) cy:=by
   refine⟨O.1,O.2.imp id ?_⟩;rintro⟨b,off,h1,h2,h3⟩;refine⟨b,off,h1,by simp; omega,fun i x W=>?_⟩;obtain⟨us,h4,h5⟩:=h3 i x W;exact⟨us,CR.keep D.keepA h4,h5.keep (s b h2)⟩
  obtain⟨news,r,J,Z,Y,I⟩:=F.flat;have h0:0<ys.length:=fX.2 A
  have p:ys.length*i.bytes<=140737488355328:=by
   have:=gg B L;omega
  have l:=run_append_grow (P:=P) (w.alloc (.cells #[] e)) T ty e i z Q hi U ⟨w.heap.size,0,none⟩ 0 0 [] (by simp) (fun j v n=>by simp at n) a ys.length cy news (by rw[G]; exact r) (J a rfl) (by omega) (by omega) (growslice_fits (by omega) (by simpa using p));have K:=grownCap_ge (w.alloc (.cells #[] e)) (0+ys.length) 0 e
  obtain⟨N,M⟩:=row_new (w:=w.alloc (.cells #[] e)) (w':=(w.alloc (.cells #[] e)).drew.alloc (.cells (([]:AS Value).toArray++news.toArray++Builtin.zeroCells z.cells (grownCap (w.alloc (.cells #[] e)) (0+ys.length) 0 e-(0+ys.length))) e))
   H1 (cap':=grownCap (w.alloc (.cells #[] e)) (0+ys.length) 0 e) (g':=0) (t:=c) (xs':=ys) (news:=news) C m rfl rfl rfl rfl (by simpa using K) (by
    simp only[gM,eT,size_zeroCells,E,r,<-dz];simp only[dm,dt,<-dz]
    apply dl; omega) ⟨r,I⟩ (fun j v n=>by
     rw[<-eD] at n;have:=(ee.1 n).1;simp only[gx,fD];rw[eZ,if_pos this]
     exact n)
  have hb:∀k,k<w.heap.size->((w.alloc (.cells #[] e)).drew.alloc (.cells (([]:AS Value).toArray++news.toArray++Builtin.zeroCells z.cells (grownCap (w.alloc (.cells #[] e)) (0+ys.length) 0 e-(0+ys.length))) e)).heap[k]?=w.heap[k]?:=fun k y=>by
   show(((w.alloc (.cells #[] e)).heap.push _))[k]?=_;rw[eG,if_neg (by simp; omega)];exact s k y
  exact⟨_,_,_,by simpa using l,by simp,D.trans N (cJ _),M,hb,by show w.heap.size<=((w.heap.push _).push _).size; simp; omega,rfl,rfl,rfl⟩
def ahA (d:Nat) (o:Oper):AN Op:=match o.guard,o.dst with
 |none,some a=>match Nat.beq a d with
  |true=>some o.op
  |false=>none
 |_,_=>none
def YM:Operand->Bool
 |.const (.slice none 0 0)=>true
 |_=>false
def Uf (i:Nat):Operand->Bool
 |.tmp j=>Nat.beq j i
 |_=>false
def OW (d:Nat) (o:Oper):Bool:=match ahA d o with
 |some (.assign x)=>YM x
 |_=>false
def Z8 (d i:Nat) (o:Oper):Bool:=match ahA d o with
 |some (.move x)=>Uf i x
 |_=>false
def Zx (d i:Nat) (o:Oper):Bool:=match ahA d o with
 |some (.assign x)=>Uf i x
 |_=>false
def agw (T d i:Nat) (o:Oper):Bool:=match ahA d o with
 |some (.binOp .eql t x y _)=>Nat.beq t T&&(Uf i x&&YM y)
 |_=>false
def QU (T d:Nat) (o:Oper):Bool:=match ahA d o with
 |some (.buildSlice t 0 ps)=>Nat.beq t T&&ps.toList.isEmpty
 |_=>false
def Q3 (T d i j:Nat) (o:Oper):Bool:=match ahA d o with
 |some (.call ⟨.builtin .append,as,ts⟩)=>match as.toList,ts.toList with
  |[x,y],[t,u]=>Uf i x&&(Uf j y&&(Nat.beq t T&&Nat.beq u T))
  |_,_=>false
 |_=>false
def ER (fn:Func) (T:Nat):Bool:=match fn.body with
 |some (.seq (.region _ a0 false) (.seq (.seq (.region _ l false) (.cond c (.seq (.region _ k false) .ret) .skip)) (.seq (.region _ a3 false) .ret))) =>
  match a0.toList,l.toList,k.toList,a3.toList with
  |[j],[i,g],[f],[e,d,b,a] =>
   Uf 4 c&&(OW 2 j&&(Z8 3 0 i&&(agw T 4 3 g&&(OW 2 f&&(QU T 5 e&&(Z8 6 0 d&&(Q3 T 7 5 6 b&&(Zx 2 7 a&&(Nat.beq fn.ntmps 8&&match fn.results.toList with
    |[.tmp r]=>Nat.beq r 2
    |_=>false)))))))))
  |_,_,_,_=>false
 |_=>false
omit [Ð] in
def qS {d:Nat} {o:Oper} {op:Op} (a:ahA d o=some op):o.guard=none/\o.dst=some d/\o.op=op:=by
 unfold ahA at a
 split at a<;>try (cases a; done)
 rename_i c b h2
 split at a<;>try (cases a; done)
 rename_i hb;cases a;exact⟨b,by rw[h2,cZ hb],rfl⟩
omit [Ð] in
def Ke {x:Operand} (a:YM x=true):x=.const (.slice none 0 0):=by
 unfold YM at a; split at a<;>first|rfl|cases a
omit [Ð] in
def og {i:Nat} {x:Operand} (a:Uf i x=true):x=.tmp i:=by
 unfold Uf at a; split at a
 ·rw[cZ a]
 ·cases a
omit [Ð] in
def Li {d:Nat} {o:Oper} (a:OW d o=true):o.guard=none/\o.dst=some d/\o.op=.assign (.const (.slice none 0 0)):=by
 unfold OW at a; split at a<;>try (cases a; done)
 rename_i x b;rw[Ke a] at b; exact qS b
omit [Ð] in
def NC {d i:Nat} {o:Oper} (a:Z8 d i o=true):o.guard=none/\o.dst=some d/\o.op=.move (.tmp i):=by
 unfold Z8 at a; split at a<;>try (cases a; done)
 rename_i x b;rw[og a] at b; exact qS b
omit [Ð] in
def Xn {d i:Nat} {o:Oper} (a:Zx d i o=true):o.guard=none/\o.dst=some d/\o.op=.assign (.tmp i):=by
 unfold Zx at a; split at a<;>try (cases a; done)
 rename_i x b;rw[og a] at b; exact qS b
omit [Ð] in
def aaN {T d i:Nat} {o:Oper} (a:agw T d i o=true):o.guard=none/\o.dst=some d/\∃u,o.op=.binOp .eql T (.tmp i) (.const (.slice none 0 0)) u:=by
 unfold agw at a; split at a<;>try (cases a; done)
 rename_i t x y u b;simp only[cM] at a;rw[cZ a.1,og a.2.1,Ke a.2.2] at b;obtain⟨e,h2,c⟩:=qS b;exact⟨e,h2,u,c⟩
omit [Ð] in
def Vf {T d:Nat} {o:Oper} (a:QU T d o=true):o.guard=none/\o.dst=some d/\o.op=.buildSlice T 0 #[]:=by
 unfold QU at a; split at a<;>try (cases a; done)
 rename_i t ps b;simp only[cM] at a
 have:ps=#[]:=by
  apply eX;simpa using a.2
 rw[cZ a.1,this] at b;exact qS b
omit [Ð] in
def Vi {T d i j:Nat} {o:Oper} (a:Q3 T d i j o=true):o.guard=none/\o.dst=some d/\o.op=.call ⟨.builtin .append,#[.tmp i,.tmp j],#[T,T]⟩:=by
 unfold Q3 at a; split at a<;>try (cases a; done)
 rename_i as ts b
 split at a<;>try (cases a; done)
 rename_i x y t u k h2;simp only[cM] at a;obtain⟨g,f,e,c⟩:=a
 have ha:as=#[.tmp i,.tmp j]:=by
  apply eX; rw[k,og g,og f]
 have hb:ts=#[T,T]:=by
  apply eX; rw[h2,cZ e,cZ c]
 rw[ha,hb] at b;exact qS b
omit [Ð] in
def KU {fn:Func} {T:Nat} (b:ER fn T=true):∃n r1 r2 m l k j i g f e d,
 fn.body=some (.seq (.region n #[l] false) (.seq (.seq (.region r1 #[k,j] false) (.cond (.tmp 4) (.seq (.region r2 #[i] false) .ret) .skip)) (.seq (.region m #[g,f,e,d] false) .ret))) /\
 OW 2 l=true/\Z8 3 0 k=true/\agw T 4 3 j=true/\OW 2 i=true/\QU T 5 g=true/\Z8 6 0 f=true/\Q3 T 7 5 6 e=true/\Zx 2 7 d=true/\fn.ntmps=8/\fn.results=#[.tmp 2]:=by
 unfold ER at b
 split at b<;>try (cases b; done)
 rename_i n a0 r1 J c r2 I m a3 hb
 split at b<;>try (cases b; done)
 rename_i l k j i g f e d h0 C h2 B;simp only[cM] at b;obtain⟨z,y,x,v,u,t,s,q,p,o,a⟩:=b
 split at a<;>try (cases a; done)
 rename_i r A;have H:a0=#[l]:=eX h0;have G:J=#[k,j]:=eX C;have F:I=#[i]:=eX h2;have E:a3=#[g,f,e,d]:=eX B
 have D:fn.results=#[.tmp 2]:=by
  apply eX; rw[A,cZ a]
 exact⟨n,r1,r2,m,l,k,j,i,g,f,e,d,by rw[hb,H,G,F,E,og z],y,x,v,u,t,s,q,p,cZ o,D⟩
omit [Ð] in
def pk {b:Array Oper} {i d:Nat} {o:Oper} {u:Value} {w':World} {a:Act} {next:Act->World->Prop} {Q:Exit->Act->World->Prop} (f:b[i]?=some o) (g:o.guard=none) (hd:o.dst=some d)
 (c:(execOp a.eval o).run P w=.ok (.value u) w') (k:next (a.put (some d) u) w'):wpOpIn Fence.wide 0 P b Q i next a w:=by
 unfold wpOpIn;rw[f]
 have e:Region.wanted o (yielded b a.tmps)=true:=by simp[Region.wanted,g]
 simp only[e,if_true];refine⟨fun _ _=>trivial,?_⟩;rw[show Fence.wide.round=none from rfl,Oper.semAt_none,c];rw[<-hd] at k;exact k
def tQ {g T:Nat} {fn:Func} (l:P.funcs[g]?=some fn) (hs:ER fn T=true) (hp:fn.params[0]?=some T) {fz:Bool} {S d:St} {nid:Nat} {x v:AV}
 (e:uw P g fz S nid x (fun v S=>some (v,S))=some (v,d)) {u:Value} (H:HR ν S.h w) (hx:VR ν S.h w x u) (D:nid<S.h.length) (hd:lkB S.h nid=.dead) :
 (∃fn c,P.funcs[g]?=some fn/\fn.body=some c) /\
 CallsIn Fence.wide 0 P g #[u] w fun e w'=>∃ν' u',e=.returned u'/\VR ν' d.h w' v u'/\HR ν' d.h w'/\Ev S.h.length ν S.h w ν' d.h w'/\S.h.length<=d.h.length/\Ě nid S.h d.h/\d.t=S.t:=by
 obtain⟨r0,r1,r2,r3,o0,o1,o2,o3,o4,o5,Q,o7,hb,k0,k1,k2,k3,k4,k5,k6,k7,hnt,y⟩:=KU hs;refine⟨⟨fn,_,l,hb⟩,?_⟩;unfold uw at e;rw[l] at e;simp only[hp,Option.bind_some] at e
 split at e<;>try (cases e; done)
 rename_i I hel
 split at e<;>try (cases e; done)
 rename_i ety hety
 split at e<;>try (cases e; done)
 rename_i s;obtain⟨i,z,hi,hsz,A,hby,hz,R⟩:=jT s
 split at e<;>try (cases e; done)
 rename_i ys W
 split at e<;>try (cases e; done)
 rename_i m
 have m:ys.length<=4294967296:=by simpa[Û] using m
 obtain⟨j,cy,rfl,q⟩:=aiM H hx W;have Z:=jh hel;obtain⟨g0,d0,p0⟩:=Li k0;obtain⟨g1,d1,p1⟩:=NC k1;obtain⟨g2,d2,u2,p2⟩:=aaN k2;obtain⟨g3,d3,p3⟩:=Li k3;obtain⟨g4,d4,p4⟩:=Vf k4;obtain⟨g5,d5,p5⟩:=NC k5;obtain⟨g6,d6,p6⟩:=Vi k6;obtain⟨g7,d7,p7⟩:=Xn k7;refine callsIn_of_wp l hb trivial ?_;simp only[hnt,eT,cY,dm,Nat.reduceAdd,Nat.reduceSub,Array.replicate_succ,Array.replicate_zero,List.push_toArray,gx,fD,fe]
 have fin:∀{a:Act} {w':World} {ν':Nat->Value} {u':Value},a.tmps.getD 2 undef=u'->a.defers=[]->VR ν' d.h w' v u'->HR ν' d.h w'->Ev S.h.length ν S.h w ν' d.h w'->S.h.length<=d.h.length->Ě nid S.h d.h->d.t=S.t ->
  bodyPost P fn (fun e w'=>∃ν' u',e=.returned u'/\VR ν' d.h w' v u'/\HR ν' d.h w'/\Ev S.h.length ν S.h w ν' d.h w'/\S.h.length<=d.h.length/\Ě nid S.h d.h/\d.t=S.t) .ret a w':=by
  intro a w' ν' u' G F p O N M L K;exact bodyPost_ret (v:=u') (by rw[results_tmp y,G]) F ⟨ν',u',rfl,p,O,N,M,L,K⟩
 refine wpIn_seq (wpIn_region ?_);rw[show List.range (#[o0]:Array Oper).size=[0] from rfl,wpOpsIn_cons];refine pk (o:=o0) (u:=.slice none 0 0) (w':=w) rfl g0 d0 (by unfold execOp; rw[p0]; rfl) ?_;refine wpIn_seq (wpIn_seq (wpIn_region ?_));rw[show List.range (#[o1,o2]:Array Oper).size=[0,1] from rfl,wpOpsIn_cons];refine pk (o:=o1) (u:=.slice j ys.length cy) (w':=w) rfl g1 d1 (by unfold execOp; rw[p1]; rfl) ?_;rw[wpOpsIn_cons]
 refine pk (o:=o2) (u:=.bool j.isNone) (w':=w) rfl g2 d2 (by
  unfold execOp; rw[p2];have h1:=Lib.run_eql_slice_nil (P:=P) w T I j ys.length cy 0 0 Z
  have h2:(eqGuard .eql T (.tmp 3) (.const (.slice none 0 0)) (.slice j ys.length cy) (.slice none 0 0)).run P w=.ok () w:=by simp[eqGuard]
  show((do let u <-(do eqGuard .eql T (.tmp 3) (.const (.slice none 0 0)) (.slice j ys.length cy) (.slice none 0 0); binOp .eql T (.slice j ys.length cy) (.slice none 0 0)); pure (.value u)):Sem Next).run P w=_
  simp only[Sem.run_bind,h1,h2,Result.andThen_ok]; rfl) ?_
 cases j with
 |none =>
  have X:ys=[]:=by
   rcases q.2 with X|⟨b,off,l,_⟩
   ·exact X
   ·cases l
  subst X;refine wpIn_cond_true rfl (wpIn_seq (wpIn_region ?_));rw[show List.range (#[o3]:Array Oper).size=[0] from rfl,wpOpsIn_cons];refine pk (o:=o3) (u:=.slice none 0 0) (w':=w) rfl g3 d3 (by unfold execOp; rw[p3]; rfl) ?_;refine wpIn_ret ?_
  cases fz with
  |true =>
   cases e;exact fin (ν':=ν) (u':=.slice none 0 0) rfl rfl ⟨none,0,rfl,cJ _,.inl rfl⟩ H (Ev.refl _ _ _ _) (cJ _) (Ě.refl _ _) rfl
  |false =>
   cases e;obtain⟨ev,J⟩:=O9 (g':=0) (t:=ety) H D (fun V=>by rw[hd]; trivial);exact fin rfl rfl (vl D rfl) J ev (by rw[Ï]; exact cJ _) (Ě.upd _ (.inl rfl)) rfl
 |some a =>
  refine wpIn_cond_false rfl (wpIn_skip ?_);refine wpIn_seq (wpIn_region ?_);rw[show List.range (#[o4,o5,Q,o7]:Array Oper).size=[0,1,2,3] from rfl,wpOpsIn_cons]
  refine pk (o:=o4) (u:=.slice (some ⟨w.heap.size,0,none⟩) 0 0) (w':=w.alloc (.cells #[] I)) rfl g4 d4 (by
   unfold execOp; rw[p4];have:=xT (P:=P) w T I i z Z hi hz
   simp only[List.map_toArray,fw,Sem.run_bind,this,Result.andThen_ok]; rfl) ?_
  rw[wpOpsIn_cons];refine pk (o:=o5) (u:=.slice (some a) ys.length cy) (w':=w.alloc (.cells #[] I)) rfl g5 d5 (by unfold execOp; rw[p5]; rfl) ?_;rw[wpOpsIn_cons];obtain⟨b,cap,w2,r,hge,ev,J,E,U,ho,Y,B⟩:=aaY (nid:=nid) H T Q.type Z hi hz hsz A hby R D hd q m
  refine pk (o:=Q) (u:=.slice (some ⟨b,0,none⟩) ys.length cap) (w':=w2) rfl g6 d6 (by
   rw[jG (S:=S) (f:=Builtin.append_) p6 (fun _ _=>rfl)];simp only[List.map_toArray,eM,fw]
   erw [Sem.run_bind,r]; rfl) ?_
  rw[wpOpsIn_cons];refine pk (o:=o7) (u:=.slice (some ⟨b,0,none⟩) ys.length cap) (w':=w2) rfl g7 d7 (by unfold execOp; rw[p7]; rfl) ?_;refine wpIn_ret ?_
  cases fz with
  |true =>
   cases e;obtain⟨ev2,H3⟩:=H.grow E U ho Y B S.h.length;refine fin (ν':=ν) (u':=.slice (some ⟨b,0,none⟩) ys.length cap) (by simp[Act.put]) rfl ?_ H3 ev2 (cJ _) (Ě.refl _ _) rfl;have hB:=J.blk nid;rw[Ü _ D] at hB;obtain⟨base,cap',G,F,p⟩:=hB;rw[Í] at G;cases G;refine⟨_,_,rfl,F,?_⟩;rcases p with⟨p,_⟩|⟨b',off,c,e',O,N,M,L⟩
   ·cases p
   ·cases O;refine .inr ⟨b,0,c,e',rfl,fun l=>by have:=H.ltA l; omega,fun hE=>by have:=H.ghlt b (.inr hE); omega,N,dc (Nat.add_le_add_left (dl _ F) _) M,fun i x hi=>?_⟩;obtain⟨us,K,q9⟩:=L i x hi;refine⟨us,K.mono (fun k E=>?_),q9⟩;rcases E with⟨id,n,hk2⟩|E
    ·have C:id≠nid:=fun l=>by rw[l,hd] at n; cases n
     exact .inl ⟨id,by rw[Ó _ C]; exact n,by rw[ý _ _ C]; exact hk2⟩
    ·exact .inr E
  |false =>
   cases e;exact fin (u':=.slice (some ⟨b,0,none⟩) ys.length cap) (by simp[Act.put]) rfl (vl D rfl) J ev (by rw[Ï]; exact cJ _) (Ě.upd _ (.inl rfl)) rfl
end
end Go.Am
end

noncomputable section
namespace Go.Am
abbrev ilt (a b:Int):Bool:=decide (a<b)
abbrev ile (a b:Int):Bool:=decide (a<=b)
abbrev igt (a b:Int):Bool:=decide (a>b)
abbrev ige (a b:Int):Bool:=decide (a>=b)
abbrev ieq (a b:Int):Bool:=a==b
abbrev ine (a b:Int):Bool:=a != b
abbrev ig (a b:Int):Bool:=decide (a=b)
abbrev Ö {α:Type} (l:AS α):Int:=V4 l.length
abbrev Ġ {α:Type} (l:AS α):Int:=(l.length:Int)
section
variable {ρ:Type}
def ck (n:Int) (f:Int->AN ρ):AN ρ:=f (wr64 n)
def ø {α:Type} (l:AS α) (i:Int) (f:α->AN ρ):AN ρ :=
 match decide (0<=i) with
 |true=>match l[i.toNat]? with
  |some e=>f e
  |none=>none
 |false=>none
def Γ {α:Type} (l:AS α) (i:Nat) (f:α->AN ρ):AN ρ :=
 match l[i]? with
 |some e=>f e
 |none=>none
def Re {k v:Ty} (x:Val k) (l:AS (Val k×Val v)) (f:Val v->AN ρ) (g:AN ρ):AN ρ :=
 match qT x l with
 |some y=>f y
 |none=>g
def æ (b:Bool) (x:AN ρ):AN ρ:=match b with|true=>x|false=>none
def ifb (b:Bool) (x y:AN ρ):AN ρ:=match b with|true=>x|false=>y
def RT (x:AN (AS Int)) (f:Int->AN ρ) (n:AN ρ):AN ρ :=
 Ä x fun l=>match l.find? (fun e=>e != 0) with
  |some e=>f e
  |none=>n
def Im {α β:Type} (f:α->AN β):AS α->AN (AS β)
 |[]=>some []
 |a::l=>match f a with
  |some b=>match Im f l with
   |some m=>some (b::m)
   |none=>none
  |none=>none
def uN (n:Nat):AS Int:=(List.range n).map fun(i:Nat)=>(i:Int)
end
end Go.Am
end

noncomputable section
namespace Go.Am
variable [ë]
def kK [Ð] {ρ:Type} {E:Env ρ} (h:E.ext=fun _=>none):∀f X,E.ext f=some X->ajc E.P f X:=fun f X e=>by rw[h] at e; cases e
end Go.Am
end
