/- lemmas -/
import Derived.Test.YtjlkjopcjcbooaaGreatDoorAmC
import Derived.Lib.SliceRun
set_option linter.all false
noncomputable section
namespace Go.Am
variable [Globs] [È]
section
variable {ρ:Type} {ν:Nat->Value} {h:th Blk} {w:World} {P:Program}
omit [È] in
def rt (w:World) (t e:TypeId) (b:TypeInfo) (z:Value) (d:P.underlying t=some (.slice e)) (a:P.info? e=some b) (c:b.zero=some z) :
 (Instr.buildSlice t 0 #[]).run P w=.ok (.slice (some ⟨w.heap.size,0,none⟩) 0 0) (w.alloc (.cells #[] e)):=by
 simp[Instr.buildSlice,run_underlying d,sizeOf,typeInfo,zeroValue,a,c,newRow,Instr.fill];rw[Array.eq_empty_of_size_eq_zero (xs:=Array.map (fun _=>(default:Value)) (Array.range 0)) (by simp)]
def Pd (H:HR ν h w) (T ty:TypeId) {e:TypeId} {i:TypeInfo} {z:Value} (Q:P.underlying T=some (.slice e)) (hi:P.info? e=some i) (U:i.zero=some z) {c:Ty} (G:i.size=c.size) (R:0<c.size)
 (L:i.bytes<=32768) (E:z.cells.size=c.size) {nid:Nat} (C:nid<h.length) (hd:lkB h nid=.dead) {ys:th (Val c)} {a:Addr} {cy:Nat} (O:SR w (Av ν h) c ys (some a) cy) (B:ys.length<=4294967296) :
 ∃b cap q,(Builtin.append_ #[T,T] ty #[.slice (some ⟨w.heap.size,0,none⟩) 0 0,.slice (some a) ys.length cy]).run P (w.alloc (.cells #[] e))=.ok (.slice (some ⟨b,0,none⟩) ys.length cap) q/\w.heap.size<=b /\
  Ev h.length ν h w (æ ν nid (.slice (some ⟨b,0,none⟩) ys.length cap)) (á h nid (.row c 0 false ys)) q/\HR (æ ν nid (.slice (some ⟨b,0,none⟩) ys.length cap)) (á h nid (.row c 0 false ys)) q /\
  (∀k,k<w.heap.size->q.heap[k]?=w.heap[k]?)/\w.heap.size<=q.heap.size/\q.os=w.os/\q.tape=w.tape/\q.output=w.output:=by
 have m:∀V,(lkB h nid).next ν (æ ν nid V) nid (.row c 0 false ys):=fun V=>by rw[hd]; trivial
 have d:(w.alloc (.cells #[] e)).heap=w.heap.push (.cells #[] e (0,0)):=rfl
 have s:∀b,b<w.heap.size->(w.alloc (.cells #[] e)).heap[b]?=w.heap[b]?:=fun b hb=>by rw[d,cF]; simp[dC hb]
 obtain⟨D,H1⟩:=H.grow (w':=w.alloc (.cells #[] e)) s (by simp) rfl rfl rfl h.length
 by_cases A:ys=[]
 ·subst A
  have S:(w.alloc (.cells #[] e)).heap[w.heap.size]?=some (.cells #[] e (0,0)):=by rw[d]; simp
  have l:=iT (P:=P) (w:=w.alloc (.cells #[] e)) T ty e i Q hi (g:=w.heap.size) (o:=0) (sLen:=0) (sCap:=0) S (some a) 0 cy [] (by simp) (fun _ _ j u n=>by simp at n) (fun _=>rfl) (fun u X=>by cases X) (by omega) (by simp)
  have f:((w.alloc (.cells #[] e)).setRow w.heap.size ((#[]:Array Value).toList.take (0+0*i.size)++[]++(#[]:Array Value).toList.drop (0+0*i.size+([]:th Value).length)).toArray).heap=w.heap.push (.cells #[] e (0,0)):=by
   apply Array.ext_getElem?
   intro k
   by_cases y:k=w.heap.size
   ·subst y;rw[setRow_heap _ _ _ _ _ _ S]; simp
   ·rw[setRow_other _ _ _ _ y,d]
  obtain⟨N,M⟩:=sW (w':=(w.alloc (.cells #[] e)).setRow w.heap.size ((#[]:Array Value).toList.take (0+0*i.size)++[]++(#[]:Array Value).toList.drop (0+0*i.size+([]:th Value).length)).toArray) H (cap':=0) (g':=0) (t:=c) (xs':=[]) (news:=[]) C m f rfl rfl rfl (by simp) (by simp) ⟨by simp,fun i x hi=>by simp at hi⟩ (fun j v n=>by simp at n);exact⟨w.heap.size,0,_,by simpa using l,bm _,N,M,fun k y=>by rw[f,cF]; simp[dC y],by rw[f]; simp,rfl,rfl,rfl⟩
 ·have F:SR (w.alloc (.cells #[] e)) (Av ν h) c ys (some a) cy:=by
   refine⟨O.1,O.2.imp id ?_⟩;rintro⟨b,off,h1,h2,h3⟩;refine⟨b,off,h1,by simp; omega,fun i x W=>?_⟩;obtain⟨us,h4,h5⟩:=h3 i x W;exact⟨us,CR.keep D.keepA h4,h5.keep (s b h2)⟩
  obtain⟨news,r,J,Z,Y,I⟩:=F.flat;have h0:0<ys.length:=dW.2 A
  have p:ys.length*i.bytes<=140737488355328:=by
   have:=eo B L;omega
  have l:=run_append_grow (P:=P) (w.alloc (.cells #[] e)) T ty e i z Q hi U ⟨w.heap.size,0,none⟩ 0 0 [] (by simp) (fun j v n=>by simp at n) a ys.length cy news (by rw[G]; exact r) (J a rfl) (by omega) (by omega) (growslice_fits (by omega) (by simpa using p));have K:=grownCap_ge (w.alloc (.cells #[] e)) (0+ys.length) 0 e
  obtain⟨N,M⟩:=sW (w:=w.alloc (.cells #[] e)) (w':=(w.alloc (.cells #[] e)).drew.alloc (.cells (([]:th Value).toArray++news.toArray++Builtin.zeroCells z.cells (grownCap (w.alloc (.cells #[] e)) (0+ys.length) 0 e-(0+ys.length))) e))
   H1 (cap':=grownCap (w.alloc (.cells #[] e)) (0+ys.length) 0 e) (g':=0) (t:=c) (xs':=ys) (news:=news) C m rfl rfl rfl rfl (by simpa using K) (by
    simp only[eW,cZ,size_zeroCells,E,r,<-bR];simp only[bD,bK,<-bR]
    apply bQ; omega) ⟨r,I⟩ (fun j v n=>by
     rw[<-cA] at n;have:=(cg.1 n).1;simp only[eI,cr];rw[cI,if_pos this]
     exact n)
  have hb:∀k,k<w.heap.size->((w.alloc (.cells #[] e)).drew.alloc (.cells (([]:th Value).toArray++news.toArray++Builtin.zeroCells z.cells (grownCap (w.alloc (.cells #[] e)) (0+ys.length) 0 e-(0+ys.length))) e)).heap[k]?=w.heap[k]?:=fun k y=>by
   show(((w.alloc (.cells #[] e)).heap.push _))[k]?=_;rw[cF,if_neg (by simp; omega)];exact s k y
  exact⟨_,_,_,by simpa using l,by simp,D.trans N (bm _),M,hb,by show w.heap.size<=((w.heap.push _).push _).size; simp; omega,rfl,rfl,rfl⟩
def VC (d:Nat) (o:Oper):so Op:=match o.guard,o.dst with
 |none,some a=>match Nat.beq a d with
  |true=>some o.op
  |false=>none
 |_,_=>none
def Na:Operand->Bool
 |.const (.slice none 0 0)=>true
 |_=>false
def Ji (i:Nat):Operand->Bool
 |.tmp j=>Nat.beq j i
 |_=>false
def Fm (d:Nat) (o:Oper):Bool:=match VC d o with
 |some (.assign x)=>Na x
 |_=>false
def Om (d i:Nat) (o:Oper):Bool:=match VC d o with
 |some (.move x)=>Ji i x
 |_=>false
def NF (d i:Nat) (o:Oper):Bool:=match VC d o with
 |some (.assign x)=>Ji i x
 |_=>false
def UD (T d i:Nat) (o:Oper):Bool:=match VC d o with
 |some (.binOp .eql t x y _)=>Nat.beq t T&&(Ji i x&&Na y)
 |_=>false
def G6 (T d:Nat) (o:Oper):Bool:=match VC d o with
 |some (.buildSlice t 0 ps)=>Nat.beq t T&&ps.toList.isEmpty
 |_=>false
def He (T d i j:Nat) (o:Oper):Bool:=match VC d o with
 |some (.call ⟨.builtin .append,as,ts⟩)=>match as.toList,ts.toList with
  |[x,y],[t,u]=>Ji i x&&(Ji j y&&(Nat.beq t T&&Nat.beq u T))
  |_,_=>false
 |_=>false
def xj (fn:Func) (T:Nat):Bool:=match fn.body with
 |some (.seq (.region _ m false) (.seq (.seq (.region _ l false) (.cond c (.seq (.region _ k false) .ret) .skip)) (.seq (.region _ a3 false) .ret))) =>
  match m.toList,l.toList,k.toList,a3.toList with
  |[j],[i,g],[f],[e,d,b,a] =>
   Ji 4 c&&(Fm 2 j&&(Om 3 0 i&&(UD T 4 3 g&&(Fm 2 f&&(G6 T 5 e&&(Om 6 0 d&&(He T 7 5 6 b&&(NF 2 7 a&&(Nat.beq fn.ntmps 8&&match fn.results.toList with
    |[.tmp r]=>Nat.beq r 2
    |_=>false)))))))))
  |_,_,_,_=>false
 |_=>false
omit [È] in
def mf {d:Nat} {o:Oper} {op:Op} (a:VC d o=some op):o.guard=none/\o.dst=some d/\o.op=op:=by
 unfold VC at a
 split at a<;>try (cases a; done)
 rename_i c b h2
 split at a<;>try (cases a; done)
 rename_i hb;cases a;exact⟨b,by rw[h2,bt hb],rfl⟩
omit [È] in
def B4 {x:Operand} (a:Na x=true):x=.const (.slice none 0 0):=by
 unfold Na at a; split at a<;>first|rfl|cases a
omit [È] in
def jL {i:Nat} {x:Operand} (a:Ji i x=true):x=.tmp i:=by
 unfold Ji at a; split at a
 ·rw[bt a]
 ·cases a
omit [È] in
def CM {d:Nat} {o:Oper} (a:Fm d o=true):o.guard=none/\o.dst=some d/\o.op=.assign (.const (.slice none 0 0)):=by
 unfold Fm at a; split at a<;>try (cases a; done)
 rename_i x b;rw[B4 a] at b; exact mf b
omit [È] in
def Ek {d i:Nat} {o:Oper} (a:Om d i o=true):o.guard=none/\o.dst=some d/\o.op=.move (.tmp i):=by
 unfold Om at a; split at a<;>try (cases a; done)
 rename_i x b;rw[jL a] at b; exact mf b
omit [È] in
def LN {d i:Nat} {o:Oper} (a:NF d i o=true):o.guard=none/\o.dst=some d/\o.op=.assign (.tmp i):=by
 unfold NF at a; split at a<;>try (cases a; done)
 rename_i x b;rw[jL a] at b; exact mf b
omit [È] in
def O0 {T d i:Nat} {o:Oper} (a:UD T d i o=true):o.guard=none/\o.dst=some d/\∃u,o.op=.binOp .eql T (.tmp i) (.const (.slice none 0 0)) u:=by
 unfold UD at a; split at a<;>try (cases a; done)
 rename_i t x y u b;simp only[bn] at a;rw[bt a.1,jL a.2.1,B4 a.2.2] at b;obtain⟨e,h2,c⟩:=mf b;exact⟨e,h2,u,c⟩
omit [È] in
def JW {T d:Nat} {o:Oper} (a:G6 T d o=true):o.guard=none/\o.dst=some d/\o.op=.buildSlice T 0 #[]:=by
 unfold G6 at a; split at a<;>try (cases a; done)
 rename_i t ps b;simp only[bn] at a
 have:ps=#[]:=by
  apply df;simpa using a.2
 rw[bt a.1,this] at b;exact mf b
omit [È] in
def JZ {T d i j:Nat} {o:Oper} (a:He T d i j o=true):o.guard=none/\o.dst=some d/\o.op=.call ⟨.builtin .append,#[.tmp i,.tmp j],#[T,T]⟩:=by
 unfold He at a; split at a<;>try (cases a; done)
 rename_i as ts b
 split at a<;>try (cases a; done)
 rename_i x y t u k h2;simp only[bn] at a;obtain⟨g,f,e,c⟩:=a
 have ha:as=#[.tmp i,.tmp j]:=by
  apply df; rw[k,jL g,jL f]
 have hb:ts=#[T,T]:=by
  apply df; rw[h2,bt e,bt c]
 rw[ha,hb] at b;exact mf b
omit [È] in
def Cw {fn:Func} {T:Nat} (a:xj fn T=true):∃m r1 r2 l k j i g f e d b,
 fn.body=some (.seq (.region m #[k] false) (.seq (.seq (.region r1 #[j,i] false) (.cond (.tmp 4) (.seq (.region r2 #[g] false) .ret) .skip)) (.seq (.region l #[f,e,d,b] false) .ret))) /\
 Fm 2 k=true/\Om 3 0 j=true/\UD T 4 3 i=true/\Fm 2 g=true/\G6 T 5 f=true/\Om 6 0 e=true/\He T 7 5 6 d=true/\NF 2 7 b=true/\fn.ntmps=8/\fn.results=#[.tmp 2]:=by
 unfold xj at a
 split at a<;>try (cases a; done)
 rename_i m A r1 z c r2 y l a3 hb
 split at a<;>try (cases a; done)
 rename_i k j i g f e d b h0 q h2 p;simp only[bn] at a;obtain⟨n,k1,k2,k3,k4,k5,k6,k7,k8,k9,k10⟩:=a
 split at k10<;>try (cases k10; done)
 rename_i r o;have x:A=#[k]:=df h0;have v:z=#[j,i]:=df q;have u:y=#[g]:=df h2;have t:a3=#[f,e,d,b]:=df p
 have s:fn.results=#[.tmp 2]:=by
  apply df; rw[o,bt k10]
 exact⟨m,r1,r2,l,k,j,i,g,f,e,d,b,by rw[hb,x,v,u,t,jL n],k1,k2,k3,k4,k5,k6,k7,k8,bt k9,s⟩
omit [È] in
def kI {b:Array Oper} {i d:Nat} {o:Oper} {u:Value} {w':World} {a:Act} {next:Act->World->Prop} {Q:Exit->Act->World->Prop} (f:b[i]?=some o) (g:o.guard=none) (hd:o.dst=some d)
 (c:(execOp a.eval o).run P w=.ok (.value u) w') (k:next (a.put (some d) u) w'):wpOpIn Fence.wide 0 P b Q i next a w:=by
 unfold wpOpIn;rw[f]
 have e:Region.wanted o (yielded b a.tmps)=true:=by simp[Region.wanted,g]
 simp only[e,if_true];refine⟨fun _ _=>trivial,?_⟩;rw[show Fence.wide.round=none from rfl,Oper.semAt_none,c];rw[<-hd] at k;exact k
def rk {g T:Nat} {fn:Func} (l:P.funcs[g]?=some fn) (hs:xj fn T=true) (hp:fn.params[0]?=some T) {fz:Bool} {S d:St} {nid:Nat} {x v:AV}
 (e:om P g fz S nid x (fun v S=>some (v,S))=some (v,d)) {u:Value} (H:HR ν S.h w) (hx:VR ν S.h w x u) (E:nid<S.h.length) (hd:lkB S.h nid=.dead) :
 (∃fn c,P.funcs[g]?=some fn/\fn.body=some c) /\
 CallsIn Fence.wide 0 P g #[u] w fun e w'=>∃ν' u',e=.returned u'/\VR ν' d.h w' v u'/\HR ν' d.h w'/\Ev S.h.length ν S.h w ν' d.h w'/\S.h.length<=d.h.length/\Ď nid S.h d.h/\d.t=S.t:=by
 obtain⟨r0,r1,r2,r3,o0,o1,o2,o3,o4,o5,Q,o7,hb,k0,k1,k2,k3,k4,k5,k6,k7,hnt,A⟩:=Cw hs;refine⟨⟨fn,_,l,hb⟩,?_⟩;unfold om at e;rw[l] at e;simp only[hp,Option.bind_some] at e
 split at e<;>try (cases e; done)
 rename_i I hel
 split at e<;>try (cases e; done)
 rename_i ety hety
 split at e<;>try (cases e; done)
 rename_i y;obtain⟨i,z,hi,hsz,B,hby,hz,R⟩:=fN y
 split at e<;>try (cases e; done)
 rename_i ys W
 split at e<;>try (cases e; done)
 rename_i n
 have n:ys.length<=4294967296:=by simpa[Ñ] using n
 obtain⟨j,cy,rfl,r⟩:=Xc H hx W;have Z:=Υ hel;obtain⟨g0,d0,p0⟩:=CM k0;obtain⟨g1,d1,p1⟩:=Ek k1;obtain⟨g2,d2,u2,p2⟩:=O0 k2;obtain⟨g3,d3,p3⟩:=CM k3;obtain⟨g4,d4,p4⟩:=JW k4;obtain⟨g5,d5,p5⟩:=Ek k5;obtain⟨g6,d6,p6⟩:=JZ k6;obtain⟨g7,d7,p7⟩:=LN k7;refine callsIn_of_wp l hb trivial ?_;simp only[hnt,cZ,bz,bD,Nat.reduceAdd,Nat.reduceSub,Array.replicate_succ,Array.replicate_zero,List.push_toArray,eI,cr,cW]
 have m:∀{a:Act} {w':World} {ν':Nat->Value} {u':Value},a.tmps.getD 2 undef=u'->a.defers=[]->VR ν' d.h w' v u'->HR ν' d.h w'->Ev S.h.length ν S.h w ν' d.h w'->S.h.length<=d.h.length->Ď nid S.h d.h->d.t=S.t ->
  bodyPost P fn (fun e w'=>∃ν' u',e=.returned u'/\VR ν' d.h w' v u'/\HR ν' d.h w'/\Ev S.h.length ν S.h w ν' d.h w'/\S.h.length<=d.h.length/\Ď nid S.h d.h/\d.t=S.t) .ret a w':=by
  intro a w' ν' u' G O q N M q6 L K;exact bodyPost_ret (v:=u') (by rw[results_tmp A,G]) O ⟨ν',u',rfl,q,N,M,q6,L,K⟩
 refine wpIn_seq (wpIn_region ?_);rw[show List.range (#[o0]:Array Oper).size=[0] from rfl,wpOpsIn_cons];refine kI (o:=o0) (u:=.slice none 0 0) (w':=w) rfl g0 d0 (by unfold execOp; rw[p0]; rfl) ?_;refine wpIn_seq (wpIn_seq (wpIn_region ?_));rw[show List.range (#[o1,o2]:Array Oper).size=[0,1] from rfl,wpOpsIn_cons];refine kI (o:=o1) (u:=.slice j ys.length cy) (w':=w) rfl g1 d1 (by unfold execOp; rw[p1]; rfl) ?_;rw[wpOpsIn_cons]
 refine kI (o:=o2) (u:=.bool j.isNone) (w':=w) rfl g2 d2 (by
  unfold execOp; rw[p2];have h1:=Lib.run_eql_slice_nil (P:=P) w T I j ys.length cy 0 0 Z
  have h2:(eqGuard .eql T (.tmp 3) (.const (.slice none 0 0)) (.slice j ys.length cy) (.slice none 0 0)).run P w=.ok () w:=by simp[eqGuard]
  show((do let u <-(do eqGuard .eql T (.tmp 3) (.const (.slice none 0 0)) (.slice j ys.length cy) (.slice none 0 0); binOp .eql T (.slice j ys.length cy) (.slice none 0 0)); pure (.value u)):Sem Next).run P w=_
  simp only[Sem.run_bind,h1,h2,Result.andThen_ok]; rfl) ?_
 cases j with
 |none =>
  have X:ys=[]:=by
   rcases r.2 with X|⟨b,off,l,_⟩
   ·exact X
   ·cases l
  subst X;refine wpIn_cond_true rfl (wpIn_seq (wpIn_region ?_));rw[show List.range (#[o3]:Array Oper).size=[0] from rfl,wpOpsIn_cons];refine kI (o:=o3) (u:=.slice none 0 0) (w':=w) rfl g3 d3 (by unfold execOp; rw[p3]; rfl) ?_;refine wpIn_ret ?_
  cases fz with
  |true =>
   cases e;exact m (ν':=ν) (u':=.slice none 0 0) rfl rfl ⟨none,0,rfl,bm _,.inl rfl⟩ H (Ev.refl _ _ _ _) (bm _) (Ď.refl _ _) rfl
  |false =>
   cases e;obtain⟨ev,J⟩:=FC (g':=0) (t:=ety) H E (fun V=>by rw[hd]; trivial);exact m rfl rfl (oa E rfl) J ev (by rw[É]; exact bm _) (Ď.upd _ (.inl rfl)) rfl
 |some a =>
  refine wpIn_cond_false rfl (wpIn_skip ?_);refine wpIn_seq (wpIn_region ?_);rw[show List.range (#[o4,o5,Q,o7]:Array Oper).size=[0,1,2,3] from rfl,wpOpsIn_cons]
  refine kI (o:=o4) (u:=.slice (some ⟨w.heap.size,0,none⟩) 0 0) (w':=w.alloc (.cells #[] I)) rfl g4 d4 (by
   unfold execOp; rw[p4];have:=rt (P:=P) w T I i z Z hi hz
   simp only[List.map_toArray,dR,Sem.run_bind,this,Result.andThen_ok]; rfl) ?_
  rw[wpOpsIn_cons];refine kI (o:=o5) (u:=.slice (some a) ys.length cy) (w':=w.alloc (.cells #[] I)) rfl g5 d5 (by unfold execOp; rw[p5]; rfl) ?_;rw[wpOpsIn_cons];obtain⟨b,cap,w2,s,hge,ev,J,F,U,ho,Y,C⟩:=Pd (nid:=nid) H T Q.type Z hi hz hsz B hby R E hd r n
  refine kI (o:=Q) (u:=.slice (some ⟨b,0,none⟩) ys.length cap) (w':=w2) rfl g6 d6 (by
   rw[fH (S:=S) (f:=Builtin.append_) p6 (fun _ _=>rfl)];simp only[List.map_toArray,cH,dR]
   erw [Sem.run_bind,s]; rfl) ?_
  rw[wpOpsIn_cons];refine kI (o:=o7) (u:=.slice (some ⟨b,0,none⟩) ys.length cap) (w':=w2) rfl g7 d7 (by unfold execOp; rw[p7]; rfl) ?_;refine wpIn_ret ?_
  cases fz with
  |true =>
   cases e;obtain⟨ev2,H3⟩:=H.grow F U ho Y C S.h.length;refine m (ν':=ν) (u':=.slice (some ⟨b,0,none⟩) ys.length cap) (by simp[Act.put]) rfl ?_ H3 ev2 (bm _) (Ď.refl _ _) rfl;have hB:=J.blk nid;rw[Ù _ E] at hB;obtain⟨base,cap',G,O,q⟩:=hB;rw[Ç] at G;cases G;refine⟨_,_,rfl,O,?_⟩;rcases q with⟨q,_⟩|⟨b',off,c,e',N,M,q6,L⟩
   ·cases q
   ·cases N;refine .inr ⟨b,0,rfl,fun l=>by have:=H.ltA l; omega,Û M,fun i x hi=>?_⟩;obtain⟨us,K,q9⟩:=L i x hi;refine⟨us,K.mono (fun k F=>?_),q9⟩;rcases F with⟨id,p,hk2⟩|F
    ·have D:id≠nid:=fun l=>by rw[l,hd] at p; cases p
     exact .inl ⟨id,by rw[Ê _ D]; exact p,by rw[ò _ _ D]; exact hk2⟩
    ·exact .inr F
  |false =>
   cases e;exact m (u':=.slice (some ⟨b,0,none⟩) ys.length cap) (by simp[Act.put]) rfl (oa E rfl) J ev (by rw[É]; exact bm _) (Ď.upd _ (.inl rfl)) rfl
end
end Go.Am
end
