/- lemmas -/
import Derived.Test.YtanjeafjkgllhaaGreatDoorAmC
import Derived.Lib.SliceRun
set_option linter.all false
noncomputable section
namespace Go.Am
variable [Globs] [Ghost]
section
variable {ρ:Type} {ν:Nat->Value} {h:rT Blk} {w:World} {P:Program}
omit [Ghost] in
def A3 (w:World) (t e:TypeId) (c:TypeInfo) (z:Value) (f:P.underlying t=some (.slice e)) (b:P.info? e=some c) (d:c.zero=some z) :
 (Instr.buildSlice t 0 #[]).run P w=.ok (.slice (some ⟨w.heap.size,0,none⟩) 0 0) (w.alloc (.cells #[] e)):=by
 simp[Instr.buildSlice,run_underlying f,sizeOf,typeInfo,zeroValue,b,d,newRow,Instr.fill];rw[Array.eq_empty_of_size_eq_zero (xs:=Array.map (fun _=>(default:Value)) (Array.range 0)) (by simp)]
def afM (H:HR ν h w) (T ty:TypeId) {e:TypeId} {i:TypeInfo} {z:Value} (U:P.underlying T=some (.slice e)) (hi:P.info? e=some i) (Y:i.zero=some z) {c:Ty} (K:i.size=c.size) (W:0<c.size)
 (O:i.bytes<=32768) (I:z.cells.size=c.size) {nid:Nat} (F:nid<h.length) (hd:lkB h nid=.dead) {ys:rT (Val c)} {a:Addr} {cy:Nat} (S:SR w (Av ν h) c ys (some a) cy) (E:ys.length<=4294967296) :
 ∃b cap y,(Builtin.append_ #[T,T] ty #[.slice (some ⟨w.heap.size,0,none⟩) 0 0,.slice (some a) ys.length cy]).run P (w.alloc (.cells #[] e))=.ok (.slice (some ⟨b,0,none⟩) ys.length cap) y/\w.heap.size<=b /\
  Ev h.length ν h w (ý ν nid (.slice (some ⟨b,0,none⟩) ys.length cap)) (î h nid (.row c 0 false ys)) y/\HR (ý ν nid (.slice (some ⟨b,0,none⟩) ys.length cap)) (î h nid (.row c 0 false ys)) y /\
  (∀k,k<w.heap.size->y.heap[k]?=w.heap[k]?)/\w.heap.size<=y.heap.size/\y.os=w.os/\y.tape=w.tape/\y.output=w.output:=by
 have n:∀V,(lkB h nid).next ν (ý ν nid V) nid (.row c 0 false ys):=fun V=>by rw[hd]; trivial
 have d:(w.alloc (.cells #[] e)).heap=w.heap.push (.cells #[] e (0,0)):=rfl
 have B:∀b,b<w.heap.size->(w.alloc (.cells #[] e)).heap[b]?=w.heap[b]?:=fun b hb=>by rw[d,fQ]; simp[gu hb]
 obtain⟨G,H1⟩:=H.grow (w':=w.alloc (.cells #[] e)) B (by simp) rfl rfl rfl h.length
 by_cases D:ys=[]
 ·subst D
  have X:(w.alloc (.cells #[] e)).heap[w.heap.size]?=some (.cells #[] e (0,0)):=by rw[d]; simp
  have m:=wg (P:=P) (w:=w.alloc (.cells #[] e)) T ty e i U hi (g:=w.heap.size) (o:=0) (sLen:=0) (sCap:=0) X (some a) 0 cy [] (by simp) (fun _ _ j u q=>by simp at q) (fun _=>rfl) (fun u hu=>by cases hu) (by omega) (by simp)
  have f:((w.alloc (.cells #[] e)).setRow w.heap.size ((#[]:Array Value).toList.take (0+0*i.size)++[]++(#[]:Array Value).toList.drop (0+0*i.size+([]:rT Value).length)).toArray).heap=w.heap.push (.cells #[] e (0,0)):=by
   apply Array.ext_getElem?
   intro k
   by_cases C:k=w.heap.size
   ·subst C;rw[setRow_heap _ _ _ _ _ _ X]; simp
   ·rw[setRow_other _ _ _ _ C,d]
  obtain⟨R,Q⟩:=C8 (w':=(w.alloc (.cells #[] e)).setRow w.heap.size ((#[]:Array Value).toList.take (0+0*i.size)++[]++(#[]:Array Value).toList.drop (0+0*i.size+([]:rT Value).length)).toArray) H (cap':=0) (g':=0) (t:=c) (xs':=[]) (news:=[]) F n f rfl rfl rfl (by simp) (by simp) ⟨by simp,fun i x hi=>by simp at hi⟩ (fun j v q=>by simp at q);exact⟨w.heap.size,0,_,by simpa using m,du _,R,Q,fun k C=>by rw[f,fQ]; simp[gu C],by rw[f]; simp,rfl,rfl,rfl⟩
 ·have J:SR (w.alloc (.cells #[] e)) (Av ν h) c ys (some a) cy:=by
   refine⟨S.1,S.2.imp id ?_⟩;rintro⟨b,off,h1,h2,h3⟩;refine⟨b,off,h1,by simp; omega,fun i x Z=>?_⟩;obtain⟨us,h4,h5⟩:=h3 i x Z;exact⟨us,CR.keep G.keepA h4,h5.keep (B b h2)⟩
  obtain⟨news,A,M,hn3,hn4,L⟩:=J.flat;have h0:0<ys.length:=List.length_pos_iff.2 D
  have s:ys.length*i.bytes<=140737488355328:=by
   have:=fT E O;omega
  have m:=run_append_grow (P:=P) (w.alloc (.cells #[] e)) T ty e i z U hi Y ⟨w.heap.size,0,none⟩ 0 0 [] (by simp) (fun j v q=>by simp at q) a ys.length cy news (by rw[K]; exact A) (M a rfl) (by omega) (by omega) (growslice_fits (by omega) (by simpa using s));have N:=grownCap_ge (w.alloc (.cells #[] e)) (0+ys.length) 0 e
  obtain⟨R,Q⟩:=C8 (w:=w.alloc (.cells #[] e)) (w':=(w.alloc (.cells #[] e)).drew.alloc (.cells (([]:rT Value).toArray++news.toArray++Builtin.zeroCells z.cells (grownCap (w.alloc (.cells #[] e)) (0+ys.length) 0 e-(0+ys.length))) e))
   H1 (cap':=grownCap (w.alloc (.cells #[] e)) (0+ys.length) 0 e) (g':=0) (t:=c) (xs':=ys) (news:=news) F n rfl rfl rfl rfl (by simpa using N) (by
    simp only[Array.size_append,fN,size_zeroCells,I,A,<-dS];simp only[dI,dW,<-dS]
    apply dP; omega) ⟨A,L⟩ (fun j v q=>by
     rw[<-fJ] at q;have:=(fH.1 q).1;simp only[gE,eA];rw[fK,if_pos this]
     exact q)
  have hb:∀k,k<w.heap.size->((w.alloc (.cells #[] e)).drew.alloc (.cells (([]:rT Value).toArray++news.toArray++Builtin.zeroCells z.cells (grownCap (w.alloc (.cells #[] e)) (0+ys.length) 0 e-(0+ys.length))) e)).heap[k]?=w.heap[k]?:=fun k C=>by
   show(((w.alloc (.cells #[] e)).heap.push _))[k]?=_;rw[fQ,if_neg (by simp; omega)];exact B k C
  exact⟨_,_,_,by simpa using m,by simp,G.trans R (du _),Q,hb,by show w.heap.size<=((w.heap.push _).push _).size; simp; omega,rfl,rfl,rfl⟩
def ams (d:Nat) (o:Oper):rF Op:=match o.guard,o.dst with
 |none,some b=>match Nat.beq b d with
  |true=>some o.op
  |false=>none
 |_,_=>none
def adz:Operand->Bool
 |.const (.slice none 0 0)=>true
 |_=>false
def Zs (i:Nat):Operand->Bool
 |.tmp j=>Nat.beq j i
 |_=>false
def US (d:Nat) (o:Oper):Bool:=match ams d o with
 |some (.assign x)=>adz x
 |_=>false
def aeP (d i:Nat) (o:Oper):Bool:=match ams d o with
 |some (.move x)=>Zs i x
 |_=>false
def aeb (d i:Nat) (o:Oper):Bool:=match ams d o with
 |some (.assign x)=>Zs i x
 |_=>false
def alx (T d i:Nat) (o:Oper):Bool:=match ams d o with
 |some (.binOp .eql t x y _)=>Nat.beq t T&&(Zs i x&&adz y)
 |_=>false
def WS (T d:Nat) (o:Oper):Bool:=match ams d o with
 |some (.buildSlice t 0 ps)=>Nat.beq t T&&ps.toList.isEmpty
 |_=>false
def WX (T d i j:Nat) (o:Oper):Bool:=match ams d o with
 |some (.call ⟨.builtin .append,as,ts⟩)=>match as.toList,ts.toList with
  |[x,y],[t,u]=>Zs i x&&(Zs j y&&(Nat.beq t T&&Nat.beq u T))
  |_,_=>false
 |_=>false
def IX (fn:Func) (T:Nat):Bool:=match fn.body with
 |some (.seq (.region _ q false) (.seq (.seq (.region _ o false) (.cond c (.seq (.region _ n false) .ret) .skip)) (.seq (.region _ a3 false) .ret))) =>
  match q.toList,o.toList,n.toList,a3.toList with
  |[m],[k,j],[i],[f,e,d,b] =>
   Zs 4 c&&(US 2 m&&(aeP 3 0 k&&(alx T 4 3 j&&(US 2 i&&(WS T 5 f&&(aeP 6 0 e&&(WX T 7 5 6 d&&(aeb 2 7 b&&(Nat.beq fn.ntmps 8&&match fn.results.toList with
    |[.tmp r]=>Nat.beq r 2
    |_=>false)))))))))
  |_,_,_,_=>false
 |_=>false
omit [Ghost] in
def tk {d:Nat} {o:Oper} {op:Op} (b:ams d o=some op):o.guard=none/\o.dst=some d/\o.op=op:=by
 unfold ams at b
 split at b<;>try (cases b; done)
 rename_i c h1 h2
 split at b<;>try (cases b; done)
 rename_i hb;cases b;exact⟨h1,by rw[h2,dF hb],rfl⟩
omit [Ghost] in
def PN {x:Operand} (b:adz x=true):x=.const (.slice none 0 0):=by
 unfold adz at b; split at b<;>first|rfl|cases b
omit [Ghost] in
def pr {i:Nat} {x:Operand} (b:Zs i x=true):x=.tmp i:=by
 unfold Zs at b; split at b
 ·rw[dF b]
 ·cases b
omit [Ghost] in
def QJ {d:Nat} {o:Oper} (b:US d o=true):o.guard=none/\o.dst=some d/\o.op=.assign (.const (.slice none 0 0)):=by
 unfold US at b; split at b<;>try (cases b; done)
 rename_i x c;rw[PN b] at c; exact tk c
omit [Ghost] in
def Tz {d i:Nat} {o:Oper} (b:aeP d i o=true):o.guard=none/\o.dst=some d/\o.op=.move (.tmp i):=by
 unfold aeP at b; split at b<;>try (cases b; done)
 rename_i x c;rw[pr b] at c; exact tk c
omit [Ghost] in
def ab8 {d i:Nat} {o:Oper} (b:aeb d i o=true):o.guard=none/\o.dst=some d/\o.op=.assign (.tmp i):=by
 unfold aeb at b; split at b<;>try (cases b; done)
 rename_i x c;rw[pr b] at c; exact tk c
omit [Ghost] in
def afE {T d i:Nat} {o:Oper} (b:alx T d i o=true):o.guard=none/\o.dst=some d/\∃u,o.op=.binOp .eql T (.tmp i) (.const (.slice none 0 0)) u:=by
 unfold alx at b; split at b<;>try (cases b; done)
 rename_i t x y u c;simp only[dt] at b;rw[dF b.1,pr b.2.1,PN b.2.2] at c;obtain⟨h1,h2,e⟩:=tk c;exact⟨h1,h2,u,e⟩
omit [Ghost] in
def aaj {T d:Nat} {o:Oper} (b:WS T d o=true):o.guard=none/\o.dst=some d/\o.op=.buildSlice T 0 #[]:=by
 unfold WS at b; split at b<;>try (cases b; done)
 rename_i t ps c;simp only[dt] at b
 have:ps=#[]:=by
  apply fo;simpa using b.2
 rw[dF b.1,this] at c;exact tk c
omit [Ghost] in
def aan {T d i j:Nat} {o:Oper} (b:WX T d i j o=true):o.guard=none/\o.dst=some d/\o.op=.call ⟨.builtin .append,#[.tmp i,.tmp j],#[T,T]⟩:=by
 unfold WX at b; split at b<;>try (cases b; done)
 rename_i as ts c
 split at b<;>try (cases b; done)
 rename_i x y t u h1 h2;simp only[dt] at b;obtain⟨m,k,f,e⟩:=b
 have ha:as=#[.tmp i,.tmp j]:=by
  apply fo; rw[h1,pr m,pr k]
 have hb:ts=#[T,T]:=by
  apply fo; rw[h2,dF f,dF e]
 rw[ha,hb] at c;exact tk c
omit [Ghost] in
def Ql {fn:Func} {T:Nat} (d:IX fn T=true):∃s r1 r2 q o n m k j i f e,
 fn.body=some (.seq (.region s #[o] false) (.seq (.seq (.region r1 #[n,m] false) (.cond (.tmp 4) (.seq (.region r2 #[k] false) .ret) .skip)) (.seq (.region q #[j,i,f,e] false) .ret))) /\
 US 2 o=true/\aeP 3 0 n=true/\alx T 4 3 m=true/\US 2 k=true/\WS T 5 j=true/\aeP 6 0 i=true/\WX T 7 5 6 f=true/\aeb 2 7 e=true/\fn.ntmps=8/\fn.results=#[.tmp 2]:=by
 unfold IX at d
 split at d<;>try (cases d; done)
 rename_i s N r1 M c r2 L q a3 hb
 split at d<;>try (cases d; done)
 rename_i o n m k j i f e h0 h1 h2 F;simp only[dt] at d;obtain⟨D,k1,C,B,A,z,y,v,u,t,b⟩:=d
 split at b<;>try (cases b; done)
 rename_i r E;have K:N=#[o]:=fo h0;have J:M=#[n,m]:=fo h1;have I:L=#[k]:=fo h2;have H:a3=#[j,i,f,e]:=fo F
 have G:fn.results=#[.tmp 2]:=by
  apply fo; rw[E,dF b]
 exact⟨s,r1,r2,q,o,n,m,k,j,i,f,e,by rw[hb,K,J,I,H,pr D],k1,C,B,A,z,y,v,u,dF t,G⟩
omit [Ghost] in
def qV {b:Array Oper} {i d:Nat} {o:Oper} {u:Value} {w':World} {a:Act} {next:Act->World->Prop} {Q:Exit->Act->World->Prop} (f:b[i]?=some o) (j:o.guard=none) (hd:o.dst=some d)
 (c:(execOp a.eval o).run P w=.ok (.value u) w') (k:next (a.put (some d) u) w'):wpOpIn Fence.wide 0 P b Q i next a w:=by
 unfold wpOpIn;rw[f]
 have e:Region.wanted o (yielded b a.tmps)=true:=by simp[Region.wanted,j]
 simp only[e,if_true];refine⟨fun _ _=>trivial,?_⟩;rw[show Fence.wide.round=none from rfl,Oper.semAt_none,c];rw[<-hd] at k;exact k
def vT {g T:Nat} {fn:Func} (m:P.funcs[g]?=some fn) (hs:IX fn T=true) (hp:fn.params[0]?=some T) {fz:Bool} {S d:St} {nid:Nat} {x v:AV}
 (e:wR P g fz S nid x (fun v S=>some (v,S))=some (v,d)) {u:Value} (H:HR ν S.h w) (hx:VR ν S.h w x u) (I:nid<S.h.length) (hd:lkB S.h nid=.dead) :
 (∃fn c,P.funcs[g]?=some fn/\fn.body=some c) /\
 CallsIn Fence.wide 0 P g #[u] w fun e w'=>∃ν' u',e=.returned u'/\VR ν' d.h w' v u'/\HR ν' d.h w'/\Ev S.h.length ν S.h w ν' d.h w'/\S.h.length<=d.h.length/\Į nid S.h d.h/\d.t=S.t:=by
 obtain⟨r0,r1,r2,r3,o0,o1,o2,o3,o4,o5,W,o7,hb,k0,k1,k2,k3,k4,k5,k6,k7,hnt,D⟩:=Ql hs;refine⟨⟨fn,_,m,hb⟩,?_⟩;unfold wR at e;rw[m] at e;simp only[hp,Option.bind_some] at e
 split at e<;>try (cases e; done)
 rename_i L hel
 split at e<;>try (cases e; done)
 rename_i ety hety
 split at e<;>try (cases e; done)
 rename_i C;obtain⟨i,z,hi,hsz,E,hby,hz,X⟩:=s9 C
 split at e<;>try (cases e; done)
 rename_i ys Z
 split at e<;>try (cases e; done)
 rename_i q
 have q:ys.length<=4294967296:=by simpa[Î] using q
 obtain⟨j,cy,rfl,A⟩:=anR H hx Z;have ht:=pB hel;obtain⟨g0,d0,p0⟩:=QJ k0;obtain⟨g1,d1,p1⟩:=Tz k1;obtain⟨g2,d2,u2,p2⟩:=afE k2;obtain⟨g3,d3,p3⟩:=QJ k3;obtain⟨g4,d4,p4⟩:=aaj k4;obtain⟨g5,d5,p5⟩:=Tz k5;obtain⟨g6,d6,p6⟩:=aan k6;obtain⟨g7,d7,p7⟩:=ab8 k7;refine callsIn_of_wp m hb trivial ?_;simp only[hnt,fN,dz,dI,Nat.reduceAdd,Nat.reduceSub,Array.replicate_succ,Array.replicate_zero,List.push_toArray,gE,eA,eT]
 have n:∀{a:Act} {w':World} {ν':Nat->Value} {u':Value},a.tmps.getD 2 undef=u'->a.defers=[]->VR ν' d.h w' v u'->HR ν' d.h w'->Ev S.h.length ν S.h w ν' d.h w'->S.h.length<=d.h.length->Į nid S.h d.h->d.t=S.t ->
  bodyPost P fn (fun e w'=>∃ν' u',e=.returned u'/\VR ν' d.h w' v u'/\HR ν' d.h w'/\Ev S.h.length ν S.h w ν' d.h w'/\S.h.length<=d.h.length/\Į nid S.h d.h/\d.t=S.t) .ret a w':=by
  intro a w' ν' u' K U y R Q q6 O N;exact bodyPost_ret (v:=u') (by rw[results_tmp D,K]) U ⟨ν',u',rfl,y,R,Q,q6,O,N⟩
 refine wpIn_seq (wpIn_region ?_);rw[show List.range (#[o0]:Array Oper).size=[0] from rfl,wpOpsIn_cons];refine qV (o:=o0) (u:=.slice none 0 0) (w':=w) rfl g0 d0 (by unfold execOp; rw[p0]; rfl) ?_;refine wpIn_seq (wpIn_seq (wpIn_region ?_));rw[show List.range (#[o1,o2]:Array Oper).size=[0,1] from rfl,wpOpsIn_cons];refine qV (o:=o1) (u:=.slice j ys.length cy) (w':=w) rfl g1 d1 (by unfold execOp; rw[p1]; rfl) ?_;rw[wpOpsIn_cons]
 refine qV (o:=o2) (u:=.bool j.isNone) (w':=w) rfl g2 d2 (by
  unfold execOp; rw[p2];have h1:=Lib.run_eql_slice_nil (P:=P) w T L j ys.length cy 0 0 ht
  have h2:(eqGuard .eql T (.tmp 3) (.const (.slice none 0 0)) (.slice j ys.length cy) (.slice none 0 0)).run P w=.ok () w:=by simp[eqGuard]
  show((do let u <-(do eqGuard .eql T (.tmp 3) (.const (.slice none 0 0)) (.slice j ys.length cy) (.slice none 0 0); binOp .eql T (.slice j ys.length cy) (.slice none 0 0)); pure (.value u)):Sem Next).run P w=_
  simp only[Sem.run_bind,h1,h2,Result.andThen_ok]; rfl) ?_
 cases j with
 |none =>
  have hy:ys=[]:=by
   rcases A.2 with hy|⟨b,off,m,_⟩
   ·exact hy
   ·cases m
  subst hy;refine wpIn_cond_true rfl (wpIn_seq (wpIn_region ?_));rw[show List.range (#[o3]:Array Oper).size=[0] from rfl,wpOpsIn_cons];refine qV (o:=o3) (u:=.slice none 0 0) (w':=w) rfl g3 d3 (by unfold execOp; rw[p3]; rfl) ?_;refine wpIn_ret ?_
  cases fz with
  |true =>
   cases e;exact n (ν':=ν) (u':=.slice none 0 0) rfl rfl ⟨none,0,rfl,du _,.inl rfl⟩ H (Ev.refl _ _ _ _) (du _) (Į.refl _ _) rfl
  |false =>
   cases e;obtain⟨ev,M⟩:=Vc (g':=0) (t:=ety) H I (fun V=>by rw[hd]; trivial);exact n rfl rfl (wn I rfl) M ev (by rw[Û]; exact du _) (Į.upd _ (.inl rfl)) rfl
 |some a =>
  refine wpIn_cond_false rfl (wpIn_skip ?_);refine wpIn_seq (wpIn_region ?_);rw[show List.range (#[o4,o5,W,o7]:Array Oper).size=[0,1,2,3] from rfl,wpOpsIn_cons]
  refine qV (o:=o4) (u:=.slice (some ⟨w.heap.size,0,none⟩) 0 0) (w':=w.alloc (.cells #[] L)) rfl g4 d4 (by
   unfold execOp; rw[p4];have:=A3 (P:=P) w T L i z ht hi hz
   simp only[List.map_toArray,gj,Sem.run_bind,this,Result.andThen_ok]; rfl) ?_
  rw[wpOpsIn_cons];refine qV (o:=o5) (u:=.slice (some a) ys.length cy) (w':=w.alloc (.cells #[] L)) rfl g5 d5 (by unfold execOp; rw[p5]; rfl) ?_;rw[wpOpsIn_cons];obtain⟨b,cap,w2,B,hge,ev,M,J,Y,ho,htp,F⟩:=afM (nid:=nid) H T W.type ht hi hz hsz E hby X I hd A q
  refine qV (o:=W) (u:=.slice (some ⟨b,0,none⟩) ys.length cap) (w':=w2) rfl g6 d6 (by
   rw[ki (S:=S) (f:=Builtin.append_) p6 (fun _ _=>rfl)];simp only[List.map_toArray,eM,gj]
   erw [Sem.run_bind,B]; rfl) ?_
  rw[wpOpsIn_cons];refine qV (o:=o7) (u:=.slice (some ⟨b,0,none⟩) ys.length cap) (w':=w2) rfl g7 d7 (by unfold execOp; rw[p7]; rfl) ?_;refine wpIn_ret ?_
  cases fz with
  |true =>
   cases e;obtain⟨ev2,H3⟩:=H.grow J Y ho htp F S.h.length;refine n (ν':=ν) (u':=.slice (some ⟨b,0,none⟩) ys.length cap) (by simp[Act.put]) rfl ?_ H3 ev2 (du _) (Į.refl _ _) rfl;have hB:=M.blk nid;rw[ã _ I] at hB;obtain⟨base,cap',K,U,y⟩:=hB;rw[Õ] at K;cases K;refine⟨_,_,rfl,U,?_⟩;rcases y with⟨y,_⟩|⟨b',off,c,e',R,Q,q6,O⟩
   ·cases y
   ·cases R;refine .inr ⟨b,0,rfl,fun m=>by have:=H.ltA m; omega,å Q,fun i x hi=>?_⟩;obtain⟨us,N,q9⟩:=O i x hi;refine⟨us,N.mono (fun k J=>?_),q9⟩;rcases J with⟨id,s,hk2⟩|J
    ·have G:id≠nid:=fun m=>by rw[m,hd] at s; cases s
     exact .inl ⟨id,by rw[Ð _ G]; exact s,by rw[Ċ _ _ G]; exact hk2⟩
    ·exact .inr J
  |false =>
   cases e;exact n (u':=.slice (some ⟨b,0,none⟩) ys.length cap) (by simp[Act.put]) rfl (wn I rfl) M ev (by rw[Û]; exact du _) (Į.upd _ (.inl rfl)) rfl
end
end Go.Am
end

noncomputable section
namespace Go.Am
variable [Globs]
structure QP (P:Program) (clo:Nat) (F:ByteArray->rT ByteArray):Prop where
 ok:∀(s:ByteArray) (l b0:Nat) (I:rT ByteArray->World->Prop) (Ix:World->Prop) (w:World),Î s.size=true ->
  (∀rest W,I rest W->Globs.Φ W)->(∀W,Ix W->Globs.Φ W)->¬b0<Globs.n ->
  (∀rest W W' v,I rest W->W.heap.size<=W'.heap.size->(∀b,b<W.heap.size->b≠b0->W'.heap[b]?=W.heap[b]?\/(w.heap.size<=b/\∃ds:rF (rT Deferred),W.heap[b]?=some (.deferred ds)))->(∃te,W'.heap[b0]?=some (.cells #[v] te (0,0)))->W'.os=W.os->W'.tape=W.tape->W'.output=W.output->I rest W') ->
  (∀W W' v,Ix W->W.heap.size<=W'.heap.size->(∀b,b<W.heap.size->b≠b0->W'.heap[b]?=W.heap[b]?\/(w.heap.size<=b/\∃ds:rF (rT Deferred),W.heap[b]?=some (.deferred ds)))->(∃te,W'.heap[b0]?=some (.cells #[v] te (0,0)))->W'.os=W.os->W'.tape=W.tape->W'.output=W.output->Ix W') ->
  (∀y rest W v,I (y::rest) W->(∃te,W.heap[b0]?=some (.cells #[v] te (0,0)))->YieldAt Fence.wide 0 P l #[.string y] W fun e W'=>W.heap.size<=W'.heap.size/\W'.heap[b0]?=W.heap[b0]?/\(∀(k:Nat) (ds:rF (rT Deferred)),W.heap[k]?=some (.deferred ds)->W'.heap[k]?=some (.deferred ds))/\((e=.returned (.bool true)/\I rest W')\/(e=.returned (.bool false)/\Ix W'))) ->
  I (F s) w->(∃te,w.heap[b0]?=some (.cells #[.string s] te (0,0))) ->
  (∃fn c,P.funcs[clo]?=some fn/\fn.body=some c)/\CallsIn Fence.wide 0 P clo #[.func (.yield l) #[] #[],.pointer (some ⟨b0,0,none⟩)] w fun e W'=>∃u s',e=.returned u/\(∃te,W'.heap[b0]?=some (.cells #[.string s'] te (0,0)))/\(I [] W'\/Ix W')
structure QR (ρ:Type) where
 path:rT Nat
 fid:Nat
 bid:Nat
 pin:Nat
 cs:rT Ty
 vs:rT Ty
 zs:rT Ty
 head:Tpl
 xt:Tpl
 clo:Nat
 F:ByteArray->rT ByteArray
 step:Val (tyL cs)->Val (tyL vs)->ByteArray->(Val (tyL vs)->rF ρ)->(Val (tyL zs)->rF ρ)->rF ρ
section
variable {ρ:Type}
def S7 (E:Env ρ) (call:rT Nat->Bool->Nat->rT AV->rT Blk->(AV->rT Blk->rF ρ)->rF ρ) (fid:Nat) (path:rT Nat) (pin bid:Nat) (it:LI) (S:St) (y:AV) (c:Exit->St->rF ρ):rF ρ :=
 match it with
 |.rf _ ps a b=>match ps.toList with
  |[p]=>goC E call fid path pin bid a {t:=upd S.t p y,h:=S.h} fun e S=>match e with
   |.normal=>goC E call fid path pin bid b S c
   |_=>none
  |_=>none
 |_=>none
def QR.back (x:QR ρ) (c:Val (tyL x.cs)->Val (tyL x.vs)->rF ρ) (b:Val (tyL x.cs)->Val (tyL x.zs)->rF ρ) (e:Exit) (S:St):rF ρ:=match e with
 |.normal=>match tq x.head x.pin x.cs x.vs S with
  |some (p,v)=>c p v
  |none=>none
 |.ret=>match tq x.xt x.pin x.cs x.zs S with
  |some (p,z)=>b p z
  |none=>none
 |_=>none
structure QR.Ok (E:Env ρ) (x:QR ρ):Prop where
 one:(((ô E.P x.fid).elim [] (Ø 0)).filter fun y=>Nat.beq y.1 x.bid).length=1
 it:QP E.P x.clo x.F
 tm:∀p v v',(à x.head x.cs x.vs p v').t=(à x.head x.cs x.vs p v).t
 tx:∀p v z,(à x.xt x.cs x.zs p z).t=(à x.head x.cs x.vs p v).t
 len:x.pin<=x.xt.heap.length
 stab:∀p v,(à x.head x.cs x.vs p v).t.all (st3 x.pin)=true
 law:∀p v y (kn:Val (tyL x.cs)->Val (tyL x.vs)->rF ρ) (kx:Val (tyL x.cs)->Val (tyL x.zs)->rF ρ),S7 E (Ğ E (10-x.path.length / 2)) x.fid x.path x.pin x.bid (iw (ô E.P x.fid) x.bid) (à x.head x.cs x.vs p v) (.str y) (x.back kn kx)=x.step p v y (kn p) (kx p)
def amL (id pin:Nat) (S:St):St:=bif Nat.blt id pin then {t:=S.t,h:=î S.h id (.cells [.any])} else S
def rngX (x:QR ρ) (m:Nat) (g:AV) (S:St) (K:Exit->St->rF ρ):rF ρ :=
 match Nat.ble m x.pin with
 |true=>match g with
  |.fn (.func c) [] [.box id 0]=>match Nat.beq c x.clo with
   |true=>match lkB S.h id with
    |.cells [.str s]=>match Î s.size&&(î S.h id .dead).all (nrB id) with
     |true=>match tq x.head x.pin x.cs x.vs {t:=S.t.map (clr id),h:=î S.h id .dead} with
      |some (p,v)=>aaz (x.step p) (x.F s) v (fun v=>K .normal (amL id x.pin (à x.head x.cs x.vs p v))) (fun z=>K .ret (amL id x.pin (à x.xt x.cs x.zs p z)))
      |none=>none
     |false=>none
    |_=>none
   |false=>none
  |_=>none
 |false=>none
structure RS (g:Ghost) (pin b0:Nat) (ν:Nat->Value) (h:rT Blk) (w:World) (ν1:Nat->Value) (h1:rT Blk) (a:Act) (t1:rT AV) (W1:World) (rc:LoopState->rF Code->Loop) (l:Nat) (S:St) (ls:LoopState) (pe:rF Code) (W:World):Prop where
 os:W.os=w.os
 tape:W.tape=w.tape
 output:W.output=w.output
 size:W1.heap.size<=W.heap.size
 nd:∀(k:Nat) (o:Obj),W1.heap[k]?=some o->LX o=false->k≠l->W.heap[k]?=some o
 rcd:W.heap[l]?=some (.loop (rc ls pe))
 box:∃v te,W.heap[b0]?=some (.cells #[v] te (0,0))
 keep:∀b,b<w.heap.size->¬qD ν h b->W.heap[b]?=w.heap[b]?
 ex:∃ν':Nat->Value,@HR _ (g.re (wP g b0) [] none 0) ν' S.h W /\
  (∀i,@VR _ (g.re (wP g b0) [] none 0) ν' S.h W (lk t1 i) (a.tmps.getD i undef)) /\
  (∀b,b<w.heap.size->¬qD ν h b->¬qD ν' S.h b) /\
  (∀id,id<pin->(lkB h1 id).next ν1 ν' id (lkB S.h id))/\Dd pin h1 S.h
section
variable {g:Ghost} {x:QR ρ} {pin b0:Nat} {ν:Nat->Value} {h:rT Blk} {w:World} {p:Val (tyL x.cs)} {Kn:Val (tyL x.vs)->rF ρ} {Kx:Val (tyL x.zs)->rF ρ} {r:ρ} {ν1:Nat->Value} {h1:rT Blk} {a:Act} {t1:rT AV} {W1:World} {rc:LoopState->rF Code->Loop} {l:Nat}
def RS.step {S:St} {ls:LoopState} {Z:rF Code} {W m:World} {v:Value} (s:qD ν h b0) (hlw:w.heap.size<=l) (z:b0<w.heap.size) (V:∃c e,w.heap[b0]?=some (.cells c e (0,0))) (X:∀b,b<w.heap.size->W1.heap[b]?=w.heap[b]?) (T:¬b0<Globs.n) (H:RS g pin b0 ν h w ν1 h1 a t1 W1 rc l S ls Z W) (K:W.heap.size<=m.heap.size) (y:g.B<=W1.heap.size) (u:l<W1.heap.size) (hwW1:w.heap.size<=W1.heap.size) (hk:∀b,b<W.heap.size->b≠b0->m.heap[b]?=W.heap[b]?\/(W1.heap.size<=b/\∃ds:rF (rT Deferred),W.heap[b]?=some (.deferred ds))) (hb:∃te,m.heap[b0]?=some (.cells #[v] te (0,0))) (A:m.os=W.os) (h2:m.tape=W.tape) (h3:m.output=W.output):RS g pin b0 ν h w ν1 h1 a t1 W1 rc l S ls Z m:=by
 obtain⟨e1,e2,e3,e4,e5,Y,⟨v0,te0,e7⟩,e8,ν',C,q5,q6,q7,q8⟩:=H
 have f:∀(b:Nat) (o:Obj),W.heap[b]?=some o->b≠b0->(b<W1.heap.size\/LX o=true)->m.heap[b]?=some o:=fun b o d N L=>by
  rcases hk b (å d) N with q|⟨G,ds,F⟩
  ·exact q.trans d
  ·rcases L with q|q
   ·omega
   ·rw[F] at d; cases d; cases q
 have KG:iL (g.re (wP g b0) [] none 0) ν' S.h W (wP g b0) m:=by
  refine⟨A,h2,h3,K,fun b _ E J=>E (.inr J),fun b o d hd J=>f b o d (fun e=>?_) (.inr hd),fun b o d hd O=>f b o d (fun e=>?_) (.inl (dD O y)),fun I b hb=>?_⟩
  rotate_left 2
  ·obtain⟨o,G,F⟩:=Globs.dat W I b hb;rw[G]; exact f b o G (fun e=>T (e▸hb)) (.inr F)
  ·subst e;obtain⟨i,hi,t⟩:=J (.inr (.inr rfl));exact @HR.ghne _ (g.re (wP g b) [] none 0) _ _ _ C i b hi t (.inr rfl)
  ·subst e; rw[e7] at d; cases d; cases hd
 refine⟨A.trans e1,h2.trans e2,h3.trans e3,dG e4 K,fun k o j d R=>f k o (e5 k o j d R) (fun e=>?_) (.inl (å j)),f l _ Y (fun e=>?_) (.inl u),⟨v,hb⟩,fun b U E=>?_,ν',?_,fun i=>?_,q6,q7,q8⟩
 ·subst e;obtain⟨c,e,hc⟩:=V;rw[X k z,hc] at j; cases j; cases d
 ·subst e; rw[e7] at Y; cases Y
 ·rcases hk b (by omega) (fun e=>E (e▸s)) with q|⟨q,_⟩
  ·exact q.trans (e8 b U E)
  ·omega
 ·exact HR.step (g:=g.re (wP g b0) [] none 0) (D:=[]) (Q:=none) (M:=0) KG (fun b hb=>dD (@HR.ghlt _ (g.re (wP g b0) [] none 0) _ _ _ C b hb) K) (fun b ⟨i,hi,t⟩ hb=>@HR.ghne _ (g.re (wP g b0) [] none 0) _ _ _ C i b hi t hb) C
 ·exact VR.step (g:=g.re (wP g b0) [] none 0) (D:=[]) (Q:=none) (M:=0) KG (q5 i)
def atQ {x:QR ρ} (p:Val (tyL x.cs)) {α:Type} (k:α->rF ρ) (b:Val (tyL x.cs)) (v:α):rF ρ:=open Classical in if b=p then k v else none
def aea {x:QR ρ} (p:Val (tyL x.cs)) {α:Type} (k:α->rF ρ):atQ p k p=k:=by
 funext v; unfold atQ; rw[if_pos rfl]
def ad9 {x:QR ρ} {p b:Val (tyL x.cs)} {α:Type} {k:α->rF ρ} {v:α} {r:ρ} (h:atQ p k b v=some r):b=p/\k v=some r:=by
 unfold atQ at h
 split at h
 ·exact⟨‹_›,h⟩
 ·cases h
def RS.round {E:Env ρ} {N:Nat} {call:rT Nat->Bool->Nat->rT AV->rT Blk->(AV->rT Blk->rF ρ)->rF ρ} (hEnv:∀[Ghost],Γ E->jM E N call) (hDraw:∀[Ghost],jM E N call->qB E N call) (R:x.path.length+2=N) (hy:@Γ _ g ρ E)
 {gop:Operand} {ps:Array Tmp} {A Bd:Code} {p0:Tmp} (hps:ps.toList=[p0]) (hL:∀[Ghost],Γ E->∀z∈Ø x.bid A++Ø x.bid Bd,kT E x.path x.fid z.1 z.2)
 (htm:∀p v Y,(à x.head x.cs x.vs p Y).t=(à x.head x.cs x.vs p v).t) (hst:∀p v,(à x.head x.cs x.vs p v).t.all (st3 x.pin)=true)
 (hlen:∀v,x.pin<=(à x.head x.cs x.vs p v).h.length)
 (law:∀p v y (kn:Val (tyL x.cs)->Val (tyL x.vs)->rF ρ) (kx:Val (tyL x.cs)->Val (tyL x.zs)->rF ρ),S7 E call x.fid x.path x.pin x.bid (.rf gop ps A Bd) (à x.head x.cs x.vs p v) (.str y) (x.back kn kx)=x.step p v y (kn p) (kx p))
 {s:FuncId} {dn:Nat} (hrc:rc=fun ls pe=>{state:=ls,pending:=pe,fn:=s,tmps:=a.tmps,params:=ps,assign:=A,body:=Bd,defers:=dn}) (hlive:qD ν h b0) (hlw:w.heap.size<=l) (hlW1:l<W1.heap.size) (hwW1:w.heap.size<=W1.heap.size) (hgBw:g.B<=w.heap.size) (hb0w:b0<w.heap.size) (ht1:∃v,t1=(à x.head x.cs x.vs p v).t) (htl:t1.length<=a.tmps.size)
 {y:ByteArray} {suf:rT ByteArray} {Y:Val (tyL x.vs)} {W:World} (hrun0:aaz (x.step p) (y::suf) Y Kn Kx=some r) (H:RS g x.pin b0 ν h w ν1 h1 a t1 W1 rc l (à x.head x.cs x.vs p Y) .ready none W) :
 YieldAt Fence.wide 0 E.P l #[.string y] W fun e W'=>W.heap.size<=W'.heap.size/\W'.heap[b0]?=W.heap[b0]?/\(∀(k:Nat) (ds:rF (rT Deferred)),W.heap[k]?=some (.deferred ds)->W'.heap[k]?=some (.deferred ds))/\((e=.returned (.bool true)/\∃v2,aaz (x.step p) suf v2 Kn Kx=some r/\RS g x.pin b0 ν h w ν1 h1 a t1 W1 rc l (à x.head x.cs x.vs p v2) .ready none W')\/(e=.returned (.bool false)/\∃z,Kx z=some r/\RS g x.pin b0 ν h w ν1 h1 a t1 W1 rc l (à x.xt x.cs x.zs p z) .done (some .ret) W')):=by
 obtain⟨e1,e2,e3,e4,e5,hl,⟨bv,bte,hbox⟩,e8,ν',q4,q5,q6,q7,q8⟩:=H;subst hrc;simp only at hl;obtain⟨GX,U⟩:∃GX:Nat->Prop,GX=wP g b0:=⟨_,rfl⟩;rw[<-U] at q4 q5
 letI gr:Ghost:=g.re GX [] (some l) W.heap.size
 have hyr:Γ E:=hy;have hE:=hEnv hyr;have hD:=hDraw hE;obtain⟨S,hS⟩:∃S,S=à x.head x.cs x.vs p Y:=⟨_,rfl⟩
 have hSt:S.t=t1:=by obtain⟨v0,h0⟩:=ht1; rw[hS,h0]; exact htm p v0 Y
 have hlen':x.pin<=S.h.length:=by rw[hS]; exact hlen Y
 rw[<-hS] at q4 q5 q6 q7 q8;have H0:HR ν' S.h W:=HR.re (g:=g.re GX [] none 0) q4
 have V0:∀i,VR ν' S.h W (lk S.t i) (a.tmps.getD i undef):=fun i=>by rw[hSt]; exact q5 i
 have hu:VR ν' S.h W (.str y) (.string y):=rfl;have fr0:∀(W2:World) (r2:Loop),W2.heap[l]?=some (.loop r2)->W.heap.size<=W2.heap.size->Fr W2 []:=fun W2 r2 h2 h3=>⟨⟨[],rfl,fI,fun _ q=>(by cases q)⟩,fun l' e=>by cases e; exact⟨r2,h2⟩,dG hgBw (dG hwW1 e4),h3⟩
 have sim0:Sim ν' {t:=upd S.t p0 (.str y),h:=S.h} {tmps:=a.tmps.setIfInBounds p0 (.string y),defers:=[]} W:=by
  have s0:Sim ν' S {tmps:=a.tmps,defers:=[]} W:=⟨fr0 W _ hl (du _),by rw[hSt]; exact htl,V0,H0⟩;exact s0.put (Ev.refl _ _ _ _) H0 (some p0) hu
 have hnb0:¬qD ν' S.h b0:=fun⟨i,hi,hbi⟩=>H0.ghne i b0 hi hbi (by show GX b0; rw[U]; exact .inr rfl)
 -- the law
 have K:=law p Y y (atQ p fun v=>aaz (x.step p) suf v Kn Kx) (atQ p Kx);rw[aea,aea,show x.step p Y y (fun v=>aaz (x.step p) suf v Kn Kx) Kx=some r from hrun0,<-hS] at K;unfold S7 at K;simp only[hps] at K;have hLr:∀z∈Ø x.bid A++Ø x.bid Bd,kT E x.path x.fid z.1 z.2:=hL hyr;have hgo:=uF hE R A x.bid _ _ ν' _ W (fun _=>hD) (fun z hz=>hLr z (List.mem_append_left _ hz)) K sim0 hlen'
 have htm0:((ps.zip #[Value.string y]).foldl (fun t (p,v)=>t.setIfInBounds p v) a.tmps)=a.tmps.setIfInBounds p0 (.string y):=by
  have:ps=#[p0]:=by rw[<-d9,hps]
  rw[this]; simp
 refine ⟨_, _, _, _, run_yield hl (by have : ps = #[p0] := by (rw [<- d9, hps])
                                      rw[this]; rfl),?_⟩
 rw[htm0];refine roundIn_of_wpIn (F:=Fence.wide) trivial (wpIn_mono (show A.wpIn (Fence.wide.inRound l) 0 E.P _ _ W from hgo) fun e aA WA hA=>?_);obtain⟨νA,SA,sA,c,lnA,ddA,kA⟩:=hA
 cases e with
 |normal =>
  simp only at kA;have T:WA.heap[l]?=some (.loop _):=H0.nd c l _ hl rfl;refine⟨_,run_beginRound T rfl,?_⟩;have d:iL gr νA SA.h WA gr.G (WA.putObj l (.loop {state:=.busy,pending:=none,fn:=s,tmps:=a.tmps,params:=ps,assign:=A,body:=Bd,defers:=dn})):=iL.nds rfl rfl rfl (by simp) fun b o hb hd=>Œ T b o hb (hd.imp id fun hlt=>by have:b<g.B:=hlt; omega);obtain⟨Z,hWb⟩:∃Z,Z=WA.putObj l (.loop {state:=.busy,pending:=none,fn:=s,tmps:=a.tmps,params:=ps,assign:=A,body:=Bd,defers:=dn}):=⟨_,rfl⟩;rw[<-hWb] at d ⊢
  have hlb:Z.heap[l]?=some (.loop {state:=.busy,pending:=none,fn:=s,tmps:=a.tmps,params:=ps,assign:=A,body:=Bd,defers:=dn}):=by rw[hWb]; exact World.putObj_heap_same (å T)
  have sB:Sim νA SA aA Z:=by
   refine⟨?_,sA.len,fun i=>VR.step (g:=gr) (D:=[]) (Q:=some l) (M:=W.heap.size) d (sA.tmps i),HR.step (g:=gr) (D:=[]) (Q:=some l) (M:=W.heap.size) d (fun b hb=>dD (sA.heap.ghlt b hb) d.size) (fun b ⟨i,hi,hb⟩=>sA.heap.ghne i b hi hb) sA.heap⟩;obtain⟨⟨ms,m1,m2,m3⟩,_,m4,m5⟩:=sA.defers;refine⟨⟨ms,m1,m2,fun k hk=>⟨?_,(m3 k hk).2⟩⟩,fun l' e=>by cases e; exact⟨_,hlb⟩,m4,dG m5 d.size⟩;rw[hWb];exact Œ T k _ (m3 k hk).1 (.inr fun e=>by have hk0:=(m3 k hk).1; rw[e,T] at hk0; cases hk0)
  have hgo2:=uF hE R Bd x.bid _ _ νA _ Z (fun _=>hD) (fun z hz=>hLr z (d8 _ hz)) kA sB lnA;refine wpIn_mono (show Bd.wpIn (Fence.wide.inRound l) 0 E.P _ _ Z from hgo2) fun e aC X hC=>?_;obtain⟨νC,SC,sC,m,lnC,ddC,I⟩:=hC;have L:X.heap[l]?=some (.loop _):=sB.heap.nd m l _ hlb rfl;have hWs:W.heap.size<=X.heap.size:=dG c.size (dG d.size m.size)
  -- the round's end
  have fin:∀(J:rF Code) (ls:LoopState) (SD:St) (f:Nat->Value),Sim f SD aC X->Ev x.pin νC SC.h X f SD.h X->Dd x.pin SC.h SD.h ->
   ∀C,C=X.putObj l (.loop {state:=ls,pending:=J,fn:=s,tmps:=a.tmps,params:=ps,assign:=A,body:=Bd,defers:=dn}) ->
   W.heap.size<=C.heap.size/\C.heap[b0]?=W.heap[b0]?/\(∀(k:Nat) (ds:rF (rT Deferred)),W.heap[k]?=some (.deferred ds)->C.heap[k]?=some (.deferred ds))/\RS g x.pin b0 ν h w ν1 h1 a t1 W1 (fun ls pe=>{state:=ls,pending:=pe,fn:=s,tmps:=a.tmps,params:=ps,assign:=A,body:=Bd,defers:=dn}) l SD ls J C:=by
   intro J ls SD f sD u V C j
   have s4:C.heap.size=X.heap.size:=by rw[j]; simp
   have h4l:C.heap[l]?=some (.loop {state:=ls,pending:=J,fn:=s,tmps:=a.tmps,params:=ps,assign:=A,body:=Bd,defers:=dn}):=by rw[j]; exact World.putObj_heap_same (å L)
   have h4o:∀b,b≠l->C.heap[b]?=X.heap[b]?:=fun b hb=>by rw[j]; exact World.putObj_heap_other hb
   have hbo:∀b,b≠l->Z.heap[b]?=WA.heap[b]?:=fun b hb=>by rw[hWb]; exact World.putObj_heap_other hb
   have n:∀b,b<W.heap.size->b≠l->¬qD ν' S.h b->C.heap[b]?=W.heap[b]?/\¬qD f SD.h b:=fun b hb hbl hn=>by
    obtain⟨k1,k2⟩:=c.keep b hb hn;obtain⟨k3,k4⟩:=m.keep b (dD hb (dG c.size d.size)) k2;obtain⟨k5,k6⟩:=u.keep b (dD hb hWs) k4;exact⟨by rw[h4o b hbl,k3,hbo b hbl,k1],k6⟩
   have o4:C.os=W.os/\C.tape=W.tape/\C.output=W.output:=by
    rw[j];exact⟨m.os.trans (d.os.trans c.os),m.tape.trans (d.tape.trans c.tape),m.output.trans (d.output.trans c.output)⟩
   have KG4:iL gr f SD.h X (wP g b0) C:=by
    refine⟨by rw[j]; rfl,by rw[j]; rfl,by rw[j]; rfl,fM s4.symm,fun b hb hn hx=>hn (.inr ?_),fun b o hb ho _=>?_,fun b o hb ho hlt=>?_,fun hΦ b hb=>by rw[j]; exact L5 L hΦ b hb⟩
    ·show GX b;rw[U]; exact hx
    ·rw[j]; exact Œ L b o hb (.inl ho)
    ·rw[j]; exact Œ L b o hb (.inr fun e=>by have:b<g.B:=hlt; omega)
   have hb04:C.heap[b0]?=W.heap[b0]?:=(n b0 (å hbox) (by omega) hnb0).1;refine⟨by rw[s4]; exact hWs,hb04,fun k ds hk=>?_,⟨o4.1.trans e1,o4.2.1.trans e2,o4.2.2.trans e3,dG e4 (by rw[s4]; exact hWs),fun k o hk ho O=>?_,h4l,⟨bv,bte,hb04.trans hbox⟩,fun b hb hn=>?_,f,?_,fun i=>?_,fun b hb hn=>?_,fun id hid=>?_,?_⟩⟩
   ·have O:k≠l:=fun e=>by rw[e,hl] at hk; cases hk
    rw[h4o k O];have k1:=H0.nd c k _ hk rfl;have k2:Z.heap[k]?=some _:=(hbo k O).trans k1;exact sB.heap.nd m k _ k2 rfl
   ·rw[h4o k O];have k1:=H0.nd c k o (e5 k o hk ho O) ho;have k2:Z.heap[k]?=some o:=(hbo k O).trans k1;exact sB.heap.nd m k o k2 ho
   ·exact(n b (by omega) (by omega) (q6 b hb hn)).1.trans (e8 b hb hn)
   ·exact HR.step (g:=gr) (D:=[]) (Q:=none) (M:=0) KG4 (fun b hb=>by have:=sD.heap.ghlt b (by show GX b; rw[U]; exact hb); omega) (fun b ⟨i,hi,hbi⟩ hb=>sD.heap.ghne i b hi hbi (by show GX b; rw[U]; exact hb)) sD.heap
   ·have hs3:st3 x.pin (lk t1 i)=true:=by
     rw[<-hSt,hS];exact aia rfl _ (hst p Y) i
    have v1:VR ν' S.h W (lk t1 i) (a.tmps.getD i undef):=by rw[<-hSt]; exact V0 i
    have v2:=VR.stab c hs3 v1;have v3:VR νA SA.h Z (lk t1 i) (a.tmps.getD i undef):=VR.step (g:=gr) (D:=[]) (Q:=some l) (M:=W.heap.size) d v2;have v4:=VR.stab u hs3 (VR.stab m hs3 v3);exact VR.step (g:=gr) (D:=[]) (Q:=none) (M:=0) KG4 v4
   ·exact(n b (by omega) (by omega) (q6 b hb hn)).2
   ·exact Blk.next_trans (Blk.next_trans (Blk.next_trans (q7 id hid) (c.blk id hid)) (m.blk id hid)) (u.blk id hid)
   ·exact((q8.trans ddA (du _)).trans ddC (du _)).trans V (du _)
  cases e with
  |normal =>
   simp only[QR.back] at I
   split at I<;>try (cases I; done)
   rename_i p' v'' hm;obtain⟨hp',I⟩:=ad9 I;subst hp';obtain⟨f,sD,u,lnD,V⟩:=vf _ _ _ _ _ _ _ νC aC X hm sC;obtain⟨f1,f2,f4,f3⟩:=fin none .ready _ f sD u V _ rfl;exact⟨_,_,run_endRound (P:=E.P) none L,f1,f2,f4,.inl ⟨rfl,v'',I,f3⟩⟩
  |ret =>
   simp only[QR.back] at I
   split at I<;>try (cases I; done)
   rename_i p' z hm;obtain⟨hp',kC2⟩:=ad9 (k:=Kx) (x:=x) I;subst hp';obtain⟨f,sD,u,lnD,V⟩:=vf _ _ _ _ _ _ _ νC aC X hm sC;obtain⟨f1,f2,f4,f3⟩:=fin (some .ret) .done _ f sD u V _ rfl;exact⟨_,_,run_endRound (P:=E.P) (some .ret) L,f1,f2,f4,.inr ⟨rfl,z,kC2,f3⟩⟩
  |exit id=>cases I
  |goto l=>cases I
  |panic ch=>cases I
  |outgrown=>cases I
 |exit id=>cases kA
 |goto l=>cases kA
 |ret=>cases kA
 |panic ch=>cases kA
 |outgrown=>cases kA
def IF (T:Tpl) (cs vs:rT Ty) (p:Val (tyL cs)) (v:Val (tyL vs)):(à T cs vs p v).h.length=T.heap.length:=by
 letI:Ghost:=Gh fun _=>False
 unfold à;exact si _ _
def aif {E:Env ρ} {N:Nat} {call:rT Nat->Bool->Nat->rT AV->rT Blk->(AV->rT Blk->rF ρ)->rF ρ} (hEnv:∀[Ghost],Γ E->jM E N call) (hDraw:∀[Ghost],jM E N call->qB E N call) (hpath:x.path.length+2=N) (hy:@Γ _ g ρ E)
 {gop:Operand} {ps:Array Tmp} {A Bd:Code} (hL:∀[Ghost],Γ E->∀z∈Ø x.bid A++Ø x.bid Bd,kT E x.path x.fid z.1 z.2)
 (hit:QP E.P x.clo x.F) (htm:∀p v v',(à x.head x.cs x.vs p v').t=(à x.head x.cs x.vs p v).t) (htx:∀p v z,(à x.xt x.cs x.zs p z).t=(à x.head x.cs x.vs p v).t) (hlx:x.pin<=x.xt.heap.length) (hst:∀p v,(à x.head x.cs x.vs p v).t.all (st3 x.pin)=true)
 (law:∀p v y (kn:Val (tyL x.cs)->Val (tyL x.vs)->rF ρ) (kx:Val (tyL x.cs)->Val (tyL x.zs)->rF ρ),S7 E call x.fid x.path x.pin x.bid (.rf gop ps A Bd) (à x.head x.cs x.vs p v) (.str y) (x.back kn kx)=x.step p v y (kn p) (kx p)) (hps:∃p0,ps.toList=[p0])
 (hplain : ∀ (f : Nat) (fn : Func), E.P.funcs[f]? = some fn -> (fn.name == "runtime.NumGoroutine") = false)
 {m:Nat} {S:St} {K:Exit->St->rF ρ} {r:ρ} {ν:Nat->Value} {a:Act} {w:World} (e:rngX x m (ev S.t gop) S K=some r) (H:@Sim _ g ν S a w) (hm:m<=S.h.length) :
 (Code.rangeFunc gop ps A Bd).wpIn (@fen _ g) 0 E.P (@aax _ g ρ m ν S.h w K r) a w:=by
 obtain⟨p0,hps⟩:=hps;unfold rngX at e
 split at e<;>try (cases e; done)
 rename_i hmp;have hmp:m<=x.pin:=eE hmp
 split at e<;>try (cases e; done)
 rename_i c id hg
 split at e<;>try (cases e; done)
 rename_i hcm;obtain rfl:=dF hcm
 split at e<;>try (cases e; done)
 rename_i s hl
 split at e<;>try (cases e; done)
 rename_i hnr;simp only[dt] at hnr;obtain⟨hsz,hnr⟩:=hnr
 split at e<;>try (cases e; done)
 rename_i p v hmt
 -- the iterator
 have hH:=@Sim.heap _ g _ _ _ _ H;have hbid:=@HR.blk _ g _ _ _ hH id;rw[hl] at hbid;obtain⟨b0,cb,te,hν,hb0,hcells⟩:=hbid;obtain⟨cu,hcu1,hcu2⟩:=hcells.one
 have hcb:cb=#[.string s]:=by
  have:cu=.string s:=hcu2.1;rw[<-d9,hcu1,this]
 rw[hcb] at hb0;have hgv:@VR _ g ν S.h w (ev S.t gop) (a.eval gop):=@Ĉ _ g _ _ _ _ H gop;rw[hg] at hgv;obtain⟨fs,cps,hge,hfs,hcps⟩:=hgv
 have hfs0:fs=#[]:=by rw[<-d9]; exact hfs.nil_left
 obtain⟨uc,hu1,hu2⟩:=hcps.one
 have huc:uc=.pointer (some ⟨b0,0,none⟩):=by
  obtain⟨_,b',_,q1,q2⟩:=hu2;rw[hν] at q1; cases q1; exact q2
 have hcps0:cps=#[.pointer (some ⟨b0,0,none⟩)]:=by rw[<-d9,hu1,huc]
 rw[hfs0,hcps0] at hge
 -- the box is let go
 obtain⟨h0,hh0⟩:∃h0,h0=î S.h id .dead:=⟨_,rfl⟩;have hid:id<S.h.length:=Ν hl (by simp)
 letI g1:Ghost:=g.re (wP g b0) g.D g.Q g.M
 have H1:HR ν h0 w:=by rw[hh0]; exact aiS hl hν hnr hH
 have sim1:Sim ν {t:=S.t.map (clr id),h:=h0} a w:=by
  refine⟨@Sim.defers _ g _ _ _ _ H,by rw[List.length_map]; exact @Sim.len _ g _ _ _ _ H,fun i=>?_,H1⟩;show VR ν h0 w (lk (S.t.map (clr id)) i) _;rw[ah9 rfl,hh0];unfold clr
  split
  ·exact aiR hl hν ‹_› (@Sim.tmps _ g _ _ _ _ H i)
  ·trivial
 rw[<-hh0] at hmt;obtain⟨ν1,sim2,ev1,hp1,dd1⟩:=vf _ _ _ _ _ _ _ ν a w hmt sim1;obtain⟨S1,hS1⟩:∃S1,S1=à x.head x.cs x.vs p v:=⟨_,rfl⟩;rw[<-hS1] at sim2 ev1 hp1 dd1
 have hlen:∀v,x.pin<=(à x.head x.cs x.vs p v).h.length:=fun v'=>by rw[IF,<-IF x.head x.cs x.vs p v,<-hS1]; exact hp1
 have L01:∀b,qD ν1 S1.h b->qD ν h0 b:=fun b hb=>Classical.byContradiction fun hn=>(ev1.keep b (sim2.heap.lt hb) hn).2 hb
 have L0:∀b,qD ν h0 b->qD ν S.h b/\b≠b0:=fun b ⟨j,hj,ho⟩=>by
  rw[hh0,sh] at hj
  split at hj
  ·cases hj
  ·rename_i hne;refine⟨⟨j,hj,ho⟩,fun eb=>hne ⟨?_,hid⟩⟩;exact @HR.inj _ g _ _ _ hH j id b hj (by rw[hl]; rfl) ho (by rw[hν,eb]; rfl)
 have hb0L:qD ν S.h b0:=⟨id,by rw[hl]; rfl,by rw[hν]; rfl⟩;have hb0w:b0<w.heap.size:=å hb0
 -- what is known of the frame
 have hfr:=@Sim.defers _ g _ _ _ _ H;have hgBw:g.B<=w.heap.size:=dG hfr.2.2.1 hfr.2.2.2;refine wpIn_rangeFunc ?_;intro fn hfn
 -- the record
 obtain⟨l,marks,dn,W1,henter,hl1,hlw,hW1s,hW1o,hW1d,hmarks⟩:∃(l:Nat) (marks:rT Nat) (dn:Nat) (W1:World),(Instr.enterLoop fn a.tmps ps A Bd (@fen _ g).round).run E.P w=.ok (l,marks.map mk1) W1 /\
  W1.heap[l]?=some (.loop {state:=.ready,pending:=none,fn:=fn,tmps:=a.tmps,params:=ps,assign:=A,body:=Bd,defers:=dn})/\w.heap.size<=l/\w.heap.size<=W1.heap.size/\(W1.os=w.os/\W1.tape=w.tape/\W1.output=w.output)/\(∀b,b<w.heap.size->W1.heap[b]?=w.heap[b]?) /\
  (marks.Nodup/\∀k∈marks,W1.heap[k]?=some (.deferred (some []))/\w.heap.size<=k):=by
  have hro:(@fen _ g).round=g.Q:=rfl;rw[hro]
  cases hQ:g.Q with
  |none =>
   refine⟨w.heap.size+1,[w.heap.size],w.heap.size,_,run_enterLoop_outer _ _ _ _ _,?_,by omega,by simp; omega,⟨rfl,rfl,rfl⟩,fun b hb=>?_,by simp,fun k hk=>?_⟩
   ·have:=World.alloc_heap_new (w.alloc (.deferred (some []))) (.loop {state:=.ready,pending:=none,fn:=fn,tmps:=a.tmps,params:=ps,assign:=A,body:=Bd,defers:=w.heap.size})
    rwa [World.size_alloc] at this
   ·rw[RowKit.Below.heap_alloc _ _ _ (by simp; omega),RowKit.Below.heap_alloc _ _ _ hb]
   ·rw[dB.1 hk];exact⟨(RowKit.Below.heap_alloc _ _ _ (by simp)).trans (World.alloc_heap_new w _),du _⟩
  |some l0 =>
   obtain⟨r0,hr0⟩:=hfr.2.1 l0 hQ;refine⟨w.heap.size,[],r0.defers,_,run_enterLoop_inner hr0 _ _ _ _ _,World.alloc_heap_new _ _,du _,by simp,⟨rfl,rfl,rfl⟩,fun b hb=>RowKit.Below.heap_alloc _ _ _ hb,fI,fun k hk=>by cases hk⟩
 obtain⟨hmn,hmk⟩:=hmarks;have hlW1:l<W1.heap.size:=å hl1;have hold:∀(b:Nat) (o:Obj),w.heap[b]?=some o->W1.heap[b]?=some o:=fun b o hb=>(hW1d b (å hb)).trans hb;obtain⟨rc,hrc⟩:∃rc:LoopState->rF Code->Loop,rc=fun ls pe=>{state:=ls,pending:=pe,fn:=fn,tmps:=a.tmps,params:=ps,assign:=A,body:=Bd,defers:=dn}:=⟨_,rfl⟩;obtain⟨Kn,hKn⟩:∃Kn:Val (tyL x.vs)->rF ρ,Kn=fun v=>K .normal (amL id x.pin (à x.head x.cs x.vs p v)):=⟨_,rfl⟩;obtain⟨Kx,hKx⟩:∃Kx:Val (tyL x.zs)->rF ρ,Kx=fun z=>K .ret (amL id x.pin (à x.xt x.cs x.zs p z)):=⟨_,rfl⟩;rw[<-hKn,<-hKx] at e;have htl:S1.t.length<=a.tmps.size:=sim2.len
 -- the loop's state at its start
 have hJ0:RS g x.pin b0 ν S.h w ν1 S1.h a S1.t W1 rc l S1 .ready none W1:=by
  have KG:iL g1 ν1 S1.h w (wP g b0) W1:=⟨hW1o.1,hW1o.2.1,hW1o.2.2,hW1s,fun b _ hn hx=>hn (.inr hx),fun b o hb _ _=>hold b o hb,fun b o hb _ _=>hold b o hb,fun hΦ b hb=>hW1d b (by obtain⟨o,h1,_⟩:=Globs.dat w hΦ b hb; exact å h1)⟩;refine⟨hW1o.1,hW1o.2.1,hW1o.2.2,du _,fun _ _ q _ _=>q,by rw[hrc]; exact hl1,⟨_,_,hold _ _ hb0⟩,fun b hb _=>hW1d b hb,ν1,?_,fun i=>?_,fun b _ hn hL2=>hn (L0 b (L01 b hL2)).1,fun i _=>Blk.next_refl _ _ _,Dd.refl _ _⟩
  ·exact HR.step (g:=g1) (D:=[]) (Q:=none) (M:=0) KG (fun b hb=>dD (@HR.ghlt _ g1 _ _ _ (@Sim.heap _ g1 _ _ _ _ sim2) b hb) hW1s) (fun b ⟨i,hi,hbi⟩ hb=>@HR.ghne _ g1 _ _ _ (@Sim.heap _ g1 _ _ _ _ sim2) i b hi hbi hb) (@Sim.heap _ g1 _ _ _ _ sim2)
  ·exact VR.step (g:=g1) (D:=[]) (Q:=none) (M:=0) KG (@Sim.tmps _ g1 _ _ _ _ sim2 i)
 obtain⟨⟨gfn,gc,hgf,hgc⟩,hcall⟩:=hit.ok s l b0 (fun rest W=>∃v,aaz (x.step p) rest v Kn Kx=some r/\RS g x.pin b0 ν S.h w ν1 S1.h a S1.t W1 rc l (à x.head x.cs x.vs p v) .ready none W)
  (fun W=>∃z,Kx z=some r/\RS g x.pin b0 ν S.h w ν1 S1.h a S1.t W1 rc l (à x.xt x.cs x.zs p z) .done (some .ret) W) W1 hsz
  (fun rest W ⟨_,_,q2⟩=>by obtain⟨ν',q4,_⟩:=q2.ex; exact @HR.glob _ (g.re (wP g b0) [] none 0) _ _ _ q4) (fun W ⟨_,_,q2⟩=>by obtain⟨ν',q4,_⟩:=q2.ex; exact @HR.glob _ (g.re (wP g b0) [] none 0) _ _ _ q4) (fun q=>@HR.globL _ g _ _ _ hH b0 q hb0L)
  (fun rest W W' v ⟨v1,q1,q2⟩ hs hk hb h1 h2 h3=>⟨v1,q1,RS.step hb0L hlw hb0w ⟨_,_,hb0⟩ hW1d (fun q=>@HR.globL _ g _ _ _ hH b0 q hb0L) q2 hs (dG hgBw hW1s) hlW1 hW1s hk hb h1 h2 h3⟩)
  (fun W W' v ⟨v1,q1,q2⟩ hs hk hb h1 h2 h3=>⟨v1,q1,RS.step hb0L hlw hb0w ⟨_,_,hb0⟩ hW1d (fun q=>@HR.globL _ g _ _ _ hH b0 q hb0L) q2 hs (dG hgBw hW1s) hlW1 hW1s hk hb h1 h2 h3⟩)
  (fun y rest W v9 ⟨v1,q1,q2⟩ hb=>RS.round hEnv hDraw hpath hy hps hL htm hst hlen law hrc hb0L hlw hlW1 hW1s hgBw hb0w ⟨v,by rw[hS1]⟩ htl q1 q2)
  ⟨v,e,by rw[<-hS1]; exact hJ0⟩ ⟨_,hold _ _ hb0⟩
 refine⟨l,marks.map mk1,W1,{target:=.fn (.func x.clo) #[.pointer (some ⟨b0,0,none⟩)],args:=#[.func (.yield l) #[] #[]]},W1,x.clo,#[.func (.yield l) #[] #[],.pointer (some ⟨b0,0,none⟩)],W1,henter,?_,fun f' _=>trivial,?_,fun q=>(by cases q),?_⟩
 ·simp only[resolve,rangeCall,hge];simp[go_sem]
 ·simp[invoke,callFunc,Sem.run_bind,run_program,Result.andThen_ok,hgf,hgc,hplain x.clo gfn hgf];simpa using hplain x.clo gfn hgf
 refine CallsIn.mono (show CallsIn (@fen _ g) 0 E.P _ _ _ _ from hcall) fun en W2 hw=>?_;obtain⟨u,s',rfl,⟨te',hbox⟩,hor⟩:=hw
 -- what the loop leaves
 obtain⟨ex,Se,ls,pe,hke,hpe,hls,hSt,ple,hRS⟩:∃(ex:Exit) (Se:St) (ls:LoopState) (pe:rF Code),K ex (amL id x.pin Se)=some r/\((pe=none/\ex=.normal)\/(pe=some .ret/\ex=.ret))/\ls≠.busy/\Se.t=S1.t/\x.pin<=Se.h.length/\RS g x.pin b0 ν S.h w ν1 S1.h a S1.t W1 rc l Se ls pe W2:=by
  rcases hor with⟨v1,q1,q2⟩|⟨z,q1,q2⟩
  ·rw[hKn] at q1;exact⟨.normal,_,.ready,none,q1,.inl ⟨rfl,rfl⟩,by simp,by rw[hS1]; exact htm p v v1,hlen v1,q2⟩
  ·rw[hKx] at q1;exact⟨.ret,_,.done,some .ret,q1,.inr ⟨rfl,rfl⟩,by simp,by rw[hS1]; exact htx p v z,by rw[IF]; exact hlx,q2⟩
 obtain⟨j1,j2,j3,j4,j5,hl2,_,j8,νe,q4,q5,q6,q7,q8⟩:=hRS;obtain⟨W3,hW3⟩:∃W3,W3=W2.putObj l (.loop {rc ls pe with state:=.exhausted}):=⟨_,rfl⟩;have hend:=run_endLoop (P:=E.P) hl2 (by rw[hrc]; exact hls);rw[<-hW3,show(rc ls pe).pending=pe by rw[hrc]] at hend;refine⟨pe,W3,hend,?_⟩
 have aft:@aax _ g ρ m ν S.h w K r ex {a with defers:=marks.map mk1++a.defers} W3:=by
  have s3:W3.heap.size=W2.heap.size:=by rw[hW3]; simp
  have h3o:∀b,b≠l->W3.heap[b]?=W2.heap[b]?:=fun b hb=>by rw[hW3]; exact World.putObj_heap_other hb
  have KG3:iL (g.re (wP g b0) [] none 0) νe Se.h W2 (wP g b0) W3:=by
   refine⟨by rw[hW3]; rfl,by rw[hW3]; rfl,by rw[hW3]; rfl,fM s3.symm,fun b _ hn hb=>hn (.inr hb),fun b o hb ho _=>?_,fun b o hb ho hlt=>?_,fun hΦ b hb=>by rw[hW3]; exact L5 hl2 hΦ b hb⟩
   ·rw[hW3]; exact Œ hl2 b o hb (.inl ho)
   ·rw[hW3]; exact Œ hl2 b o hb (.inr fun q=>by have:b<g.B:=hlt; omega)
  have H3:@HR _ (g.re (wP g b0) [] none 0) νe Se.h W3:=HR.step (g:=g.re (wP g b0) [] none 0) (D:=[]) (Q:=none) (M:=0) KG3 (fun b hb=>by have:=@HR.ghlt _ (g.re (wP g b0) [] none 0) _ _ _ q4 b hb; omega) (fun b ⟨i,hi,hbi⟩ hb=>@HR.ghne _ (g.re (wP g b0) [] none 0) _ _ _ q4 i b hi hbi hb) q4;have nd3:∀(k:Nat) (o:Obj),W1.heap[k]?=some o->LX o=false->k≠l->W3.heap[k]?=some o:=fun k o hk ho hkl=>(h3o k hkl).trans (j5 k o hk ho hkl)
  have V3:∀i,@VR _ (g.re (wP g b0) [] none 0) νe Se.h W3 (lk Se.t i) (a.tmps.getD i undef):=fun i=>by rw[hSt]; exact VR.step (g:=g.re (wP g b0) [] none 0) (D:=[]) (Q:=none) (M:=0) KG3 (q5 i)
  have hfr3:@Fr _ g W3 (marks.map mk1++a.defers):=by
   obtain⟨⟨ms,m1,m2,m3⟩,m4,m5,m6⟩:=hfr;have lt3:∀k∈ms,k<w.heap.size:=fun k hk=>å (m3 k hk).1;refine⟨⟨marks++ms,?_,?_,fun k hk=>?_⟩,fun l' hl'=>?_,m5,by omega⟩
   ·rw[m1,gF,dH]
   ·refine List.nodup_append.2 ⟨hmn,m2,fun k1 h1 k2 h2 q=>?_⟩;have:=(hmk k1 h1).2;have:=lt3 k2 h2;omega
   ·rcases dA.1 hk with hk|hk
    ·obtain⟨z1,z2⟩:=hmk k hk;exact⟨nd3 k _ z1 rfl (fun q=>by rw[q,hl1] at z1; cases z1),dG m6 z2⟩
    ·exact⟨nd3 k _ (hold _ _ (m3 k hk).1) rfl (fun q=>by have:=lt3 k hk; omega),(m3 k hk).2⟩
   ·obtain⟨r',hr'⟩:=m4 l' hl';exact⟨r',nd3 l' _ (hold _ _ hr') rfl (fun q=>by have:=å hr'; omega)⟩
  have blk3:∀i,i<m->i≠id->(lkB S.h i).next ν νe i (lkB Se.h i):=fun i hi hne=>by
   have z1:lkB h0 i=lkB S.h i:=by rw[hh0]; exact Ð _ hne
   have z2:=ev1.blk i (dD hi hmp);rw[z1] at z2;exact Blk.next_trans z2 (q7 i (dD hi hmp))
  have dd3:∀j,j<m->lkB S.h j=.dead->j≠id/\lkB Se.h j=.dead:=fun j hj hd2=>by
   have hne:j≠id:=fun q=>by rw[q,hl] at hd2; cases hd2
   have z1:lkB h0 j=.dead:=by rw[hh0,Ð _ hne]; exact hd2
   exact⟨hne,q8 j (by omega) (dd1 j (by omega) z1)⟩
  have keep3:∀b,b<w.heap.size->¬qD ν S.h b->W3.heap[b]?=w.heap[b]?:=fun b hb hn=>by
   rw[h3o b (by omega),j8 b hb hn]
  have oss:W3.os=w.os/\W3.tape=w.tape/\W3.output=w.output:=by
   rw[hW3];exact⟨j1,j2,j3⟩
  have sz3:w.heap.size<=W3.heap.size:=by omega
  have hgb:¬g.G b0:=fun q=>@HR.ghne _ g _ _ _ hH id b0 (by rw[hl]; rfl) (by rw[hν]; rfl) q
  by_cases hip:id<x.pin
  ·-- the box is there again
   have hbt:Nat.blt id x.pin=true:=g8 hip;rw[amL,hbt] at hke;have hd0:lkB Se.h id=.dead:=q8 id hip (dd1 id hip (by rw[hh0]; exact ã _ hid));have hidl:id<Se.h.length:=dD hip ple;have hw3:W3.heap[b0]?=some (.cells #[.string s'] te' (0,0)):=(h3o b0 (by omega)).trans hbox;have hrE:=ajJ (g:=g) (D:=g.D) (Q:=g.Q) (M:=g.M) (D1:=[]) (Q1:=none) (M1:=0) (G1:=wP g b0) (cs:=[.any]) hd0 hidl (fun b hb=>.inl hb) (.inr rfl) hgb (fun q=>@HR.globL _ g _ _ _ hH b0 q hb0L) hw3 ⟨⟨trivial,rfl⟩,trivial⟩ H3;refine⟨_,_,@Sim.mk _ g _ _ _ _ hfr3 (by show Se.t.length<=_; rw[hSt]; exact htl) (fun i=>ajI (g:=g) (D:=g.D) (Q:=g.Q) (M:=g.M) (D1:=[]) (Q1:=none) (M1:=0) (G1:=wP g b0) (cs:=[.any]) hd0 hidl (fun b hb=>.inl hb) (.inr rfl) (V3 i)) (HR.er hrE),⟨oss.1,oss.2.1,oss.2.2,sz3,fun b hb hn=>⟨keep3 b hb hn,?_⟩,fun i hi=>?_⟩,?_,fun j hj hd2=>?_,hke⟩
   ·rintro⟨j,hj,ho⟩
    by_cases q:j=id
    ·rw[q,Õ] at ho; cases ho; exact hn hb0L
    ·have hj:(lkB (î Se.h id (.cells [.any])) j).live=true:=hj;rw[Ð _ q] at hj; rw[Ċ _ _ q] at ho;exact q6 b hb hn ⟨j,hj,ho⟩
   ·show(lkB S.h i).next ν _ i (lkB (î Se.h id (.cells [.any])) i)
    by_cases q:i=id
    ·subst q;rw[ã _ hidl,hl];exact⟨⟨_,rfl⟩,by rw[Õ,hν]⟩
    ·rw[Ð _ q];have z:=blk3 i hi q;have e:=Ċ νe (.pointer (some ⟨b0,0,none⟩)) q;revert z
     cases lkB S.h i<;>intro z
     ·trivial
     ·exact⟨z.1,e.trans z.2⟩
     ·obtain⟨g',fz,xs',y1,y2,y3⟩:=z;exact⟨g',fz,xs',y1,y2,fun y4=>⟨e.trans (y3 y4).1,(y3 y4).2⟩⟩
     ·exact⟨z.1,e.trans z.2⟩
     ·exact z
     ·exact⟨z.1,e.trans z.2⟩
     ·exact⟨z.1,e.trans z.2⟩
   ·show m<=(î Se.h id (.cells [.any])).length;rw[Û]; omega
   ·obtain⟨hne,hde⟩:=dd3 j hj hd2;show lkB (î Se.h id (.cells [.any])) j=.dead;rw[Ð _ hne]; exact hde
  ·have hbt:Nat.blt id x.pin=false:=by
    cases hq:Nat.blt id x.pin with
    |false=>rfl
    |true=>exact absurd (eE hq) hip
   rw[amL,hbt] at hke;have KGl:iL (g.re (wP g b0) [] none 0) νe Se.h W3 g.G W3:=iL.less (fun b hb=>.inl hb);refine⟨νe,Se,@Sim.mk _ g _ _ _ _ hfr3 (by rw[hSt]; exact htl) (fun i=>VR.step (g:=g.re (wP g b0) [] none 0) (D:=g.D) (Q:=g.Q) (M:=g.M) KGl (V3 i)) (HR.step (g:=g.re (wP g b0) [] none 0) (D:=g.D) (Q:=g.Q) (M:=g.M) KGl (fun b hb=>@HR.ghlt _ (g.re (wP g b0) [] none 0) _ _ _ H3 b (.inl hb)) (fun b ⟨i,hi,hbi⟩ hg=>@HR.ghne _ (g.re (wP g b0) [] none 0) _ _ _ H3 i b hi hbi (.inl hg)) H3),⟨oss.1,oss.2.1,oss.2.2,sz3,fun b hb hn=>⟨keep3 b hb hn,q6 b hb hn⟩,fun i hi=>blk3 i hi (by omega)⟩,by omega,fun j hj hd2=>(dd3 j hj hd2).2,hke⟩
 rcases hpe with⟨rfl,rfl⟩|⟨rfl,rfl⟩
 ·exact aft
 ·exact wpIn_ret aft
end
end
end Go.Am
end

noncomputable section
namespace Go.Am
variable [Globs] [Ghost]
section
variable {ρ:Type}
def ZJ:rT (QR ρ)->rT Nat->Nat->Nat->rF (QR ρ)
 |[],_,_,_=>none
 |x::l,path,fid,bid=>match Nat.beq x.bid bid&&(Nat.beq x.fid fid&&eqL x.path path) with
  |true=>some x
  |false=>ZJ l path fid bid
def GH (tab:rT (QR ρ)) (path:rT Nat) (fid bid m:Nat) (g:AV) (S:St) (K:Exit->St->rF ρ):rF ρ :=
 match ZJ tab path fid bid with
 |some x=>rngX x m g S K
 |none=>none
omit [Ghost] in
def P6:∀{tab:rT (QR ρ)} {path:rT Nat} {fid bid:Nat} {x:QR ρ},ZJ tab path fid bid=some x->x∈tab/\x.path=path/\x.fid=fid/\x.bid=bid
 |[],_,_,_,_,h=>by cases h
 |y::tab,path,fid,bid,x,h=>by
  unfold ZJ at h
  split at h
  ·rename_i hb;simp only[dt] at hb;cases h;exact⟨by simp,ZX hb.2.2,dF hb.2.1,dF hb.1⟩
  ·obtain⟨h1,h2⟩:=P6 h;exact⟨by simp[h1],h2⟩
omit [Ghost] in
def ahY [LC] {E:Env ρ} (hmix:E.P.follows .mixedOrders=true) {tab:rT (é ρ)} (W:E.loops=Ε tab) (R:∀x∈tab,x.Ok E) {rtab:rT (QR ρ)} (hR:E.ranges=GH rtab) (B:∀x∈rtab,x.Ok E) (O:∀x∈rtab,Eo (iw (ô E.P x.fid) x.bid)=true):zX E:=by
 intro n hn k g0 o path f fn c hp hf hc
 have t:ô E.P f=some c:=by simp only[ô,hf,hc]
 have F:∀(N:Nat) (x:Nat×LI),x.2.sz<N->x∈Ø 0 c->∀[Ghost],Γ E->kT E path f x.1 x.2:=by
  intro N
  induction N with
  |zero=>intro x h; omega
  |succ N ih =>
   intro⟨bid,b⟩ Z u
   have D:∀y∈b.loops bid,y.2.sz<N:=fun y o=>by
    cases b with
    |lp b=>have:=ď b bid (bid:=y.1) (b:=y.2) o; simp only[LI.sz] at Z; omega
    |rf gop ps A Bd =>
     simp only[LI.sz] at Z;rcases dA.1 o with o|o
     ·have:=ď A bid (bid:=y.1) (b:=y.2) o; omega
     ·have:=ď Bd bid (bid:=y.1) (b:=y.2) o; omega
   have C:∀[Ghost],Γ E->∀y∈b.loops bid,kT E path f y.1 y.2:=fun G y o=>ih y (D y o) (ļ c 0 u y o) G;intro g1 q
   cases b with
   |lp b =>
    intro m S K r ν a w e H T;rw[W] at e;unfold Ε at e
    cases j:afA S tab path f bid with
    |none =>
     rw[j] at e;cases e
    |some x =>
     obtain⟨h1,h2,Y,X⟩:=IL j;obtain⟨i,d⟩:=R x h1;subst Y X;rw[t] at i d;simp only[Option.elim] at i
     have hb:ov (some c) x.bid=b:=by unfold ov; rw[zz i u]
     rw[hb] at d
     have hd:10-x.path.length / 2=n:=by rw[h2]; omega
     rw[hd,h2] at d;rw[<-h2] at d;rw[j] at e;exact adv (path:=x.path) vf (k q) (iZ hmix _ _ (k q)) (by rw[h2]; omega) (by rw[h2]; exact C q) x.L x.bF (fun p v kn kx=>d p v kn kx) e H T
   |rf gop ps A Bd =>
    intro m S K r ν a w e H T;rw[hR] at e;unfold GH at e
    cases j:ZJ rtab path f bid with
    |none =>
     rw[j] at e;cases e
    |some x =>
     obtain⟨h1,h2,Y,X⟩:=P6 j;obtain⟨i,V,J,I,U,M,d⟩:=B x h1;have s:=O x h1;subst Y X;rw[t] at i d s;simp only[Option.elim] at i;rw[zz i u] at d s
     have hd:10-x.path.length / 2=n:=by rw[h2]; omega
     rw[hd] at d;rw[j] at e
     have Q:∃p0,ps.toList=[p0]:=by
      simp only[Eo] at s
      split at s
      ·exact⟨_,‹_›⟩
      ·cases s
     exact aif (x:=x) k (fun W=>iZ hmix _ _ W) (by rw[h2]; omega) q (fun o z hz=>by rw[h2]; exact C o z hz) V J I U M d Q (k q).plain e H T
 exact fun x u=>F _ x (gY _) u o
omit [Ghost] in
def XF [LC] {f:Nat} {p:ì} (E:Env (Val (tyL p.rs))) (c:∀[Ghost],Bm E) (hmix:E.P.follows .mixedOrders=true) {tab:rT (é (Val (tyL p.rs)))} (j:E.loops=Ε tab) (e:∀x∈tab,x.Ok E) {rtab:rT (QR (Val (tyL p.rs)))} (i:E.ranges=GH rtab) (b:∀x∈rtab,x.Ok E) (d:∀x∈rtab,Eo (iw (ô E.P x.fid) x.bid)=true) (law:HL p E f):Ķ E.P f p :=
 LV E c hmix (ahY hmix j e i b d) law
end
end Go.Am
end
