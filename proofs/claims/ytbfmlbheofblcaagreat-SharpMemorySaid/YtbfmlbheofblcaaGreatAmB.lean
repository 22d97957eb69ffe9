/- lemmas -/
import Derived.Test.YtbfmlbheofblcaaGreatAmA
import Derived.Laws.StructEq
import Derived.ChangeKeysEq
import Derived.Laws.BytesArg
import Derived.Laws.Strings3
import Derived.Laws.DeepStrings4
import Derived.OrdersIn
import Derived.RangeFuncSeq
import Derived.RangeFuncRecord
import Derived.LoopNIn
set_option linter.all false
noncomputable section
namespace Go.Am
variable [ë] [Ð]
section
variable {ν ν':Nat->Value} {h h':AS Blk} {w w':World} {P:Program}
def Lw {z:Array Value} {n i:Nat} (hi:i<n):((Builtin.zeroCells z n).toList.drop (i*z.size)).take z.size=z.toList:=by
 have hb:i*z.size+z.size<=n*z.size:=by
  have:=dl z.size (show i+1<=n from hi)
  rwa [dz,fu] at this
 apply List.ext_getElem?
 intro j;rw[dY]
 split
 ·rename_i b;rw[fg];simp only[Builtin.zeroCells,fU,Array.toList_range,gL];rw[gw (by omega)];simp only[dT]
  have c:(i*z.size+j) % z.size=j:=by rw[Nat.mul_comm,Nat.mul_add_mod]; exact fW b
  rw[c];simp[getElem!_pos,b]
 ·rename_i b;rw[List.getElem?_eq_none]; simpa using b
def Vv {e:TypeId} {t:Ty} {i:TypeInfo} {z:Value} {d:AS AV} {x:Val t} {av:Nat->Prop} (hi:P.info? e=some i) (g:i.zero=some z)
 (f:(((P.info? e).bind (·.zero)).map cv).bind ģ=some d) (h2:Ù t d=some x) (H:HR ν h w) (c:∀b,av b->Av ν h b):CR w av t x z.cells.toList:=by
 simp only[hi,g,ez,dT] at f;have:=(US (ν:=ν) (h:=h) (w:=w) z).cells f;exact CR.mono c (Ĝ h2 (this.mono fun _ _ j=>VR1.data j.1))
def HB {t:Ty} {x:Val t} {z:Array Value} {av:Nat->Prop} (c:z.size=t.size) (d:CR w av t x z.toList) (n:Nat):yb w av t (List.replicate n x) (Builtin.zeroCells z n).toList:=by
 refine⟨by simp[Builtin.zeroCells,c],fun i y hi=>?_⟩
 have b:i<n:=by simpa using(cO.1 hi).1
 rw[List.getElem?_replicate,if_pos b] at hi;cases hi;rw[<-c,Lw b];exact d
def Bf {n:Nat} (h:0<n):Builtin.nextslicecap n 0=n:=by simp[Builtin.nextslicecap]; omega
def Xx {n:Int} (b : -9223372036854775808<=n) (h2:n<=9223372036854775807):IntKind.i64.wrap n=n:=by
 have e:IntKind.i64.wrap n=if n % 18446744073709551616>=9223372036854775808 then n % 18446744073709551616-18446744073709551616 else n % 18446744073709551616:=by
  simp[IntKind.wrap,IntKind.bits,IntKind.signed]
 rw[e]
 split<;>omega
def afq {nid:Nat} {t J ty:TypeId} {k:IntKind} {s x v:AV} {us p:Value} (H:HR ν h w) (M:nid<h.length) (hd:lkB h nid=.dead) (B:P.underlying J=some (.int k))
 (e:AD P h nid t s x (fun v h=>some (v,h))=some (v,h')) (X:VR ν h w s us) (S:VR ν h w x p):Ķ P ν h w (Builtin.append_ #[t,J] ty #[us,p]) v h':=by
 unfold AD at e
 split at e<;>try (cases e; done)
 rename_i n o D
 split at e<;>try (cases e; done)
 rename_i ety N
 split at e<;>try (cases e; done)
 rename_i f;obtain⟨i,z,hi,W,L,E,K,d⟩:=jT f
 split at e<;>try (cases e; done)
 rename_i zs q
 split at e<;>try (cases e; done)
 rename_i R r
 split at e<;>try (cases e; done)
 rename_i g;cases e;have U:=jh D;have A:us=.slice none 0 0:=X;have y:p=.int .i64 n:=S;subst A y;simp only[cM,decide_eq_true_eq,Û] at g;have u:=Vv hi K q r H (av:=Av ν h) fun _ hb=>hb;have Y:=HB (by rw[d]) u n.toNat;have T:IntKind.i64.wrap n=n:=Xx (by omega) (by omega);have C:=grownCap_ge w n.toNat 0 o
 have b:=row_new (w':=w.drew.alloc (.cells ((Builtin.zeroCells z.cells n.toNat)++Builtin.zeroCells z.cells (grownCap w n.toNat 0 o-n.toNat)) o)) H (id:=nid) (g':=0) (xs':=List.replicate n.toNat R) (cap':=grownCap w n.toNat 0 o) M
  (fun V=>by rw[hd]; trivial) rfl rfl rfl rfl (by simpa using C) (by
   simp only[gM,size_zeroCells,d,<-dz]
   apply dl; omega) Y (fun j v hj=>by
    have l:(Builtin.zeroCells z.cells n.toNat)[j]?=some v:=by simpa using hj
    rw[eZ,if_pos (ee.1 l).1]; exact l)
 rw[fQ] at b;refine⟨_,_,_,?_,vl M rfl,b.2,b.1,Ï _ _ _⟩
 have hb:n.toNat*i.bytes<=140737488355328:=by
  have:=gg g.2 E;omega
 have I:¬(281474976710656:Int)<n*(i.bytes:Int):=by
  have:((n.toNat*i.bytes:Nat):Int)=n*i.bytes:=by
   rw[gU,gu (by omega)]
  omega
 have m:¬(281474976710656<Builtin.nextslicecap n.toNat 0*i.bytes):=by rw[Bf (by omega)]; omega
 have h0:¬n<0:=by omega
 have O:n.toNat≠0:=by omega
 have Z:IntKind.i64.max=9223372036854775807:=rfl
 have G:¬(9223372036854775807:Int)<(n.toNat:Int):=by omega
 have c:¬i.size=0:=by omega
 simp[Builtin.append_,run_underlying U,run_underlying B,sizeOf,typeInfo,zeroValue,hi,K,asInt,asIntOf,T,h0,I,m,O,Z,G,c,Builtin.firstCells,Question.forced,newRow,grownCap];rw[if_neg (by omega),if_neg (by omega),if_neg (Nat.mul_ne_zero O c)]
def S6 {nid:Nat} {t m:TypeId} {k:IntKind} {n:Int} {c:Ty} {D:AS AV} {o:Val c} (H:HR ν h w) (J:nid<h.length) (hd:lkB h nid=.dead) (y:Ay P t=some m)
 (f:AQ P m c.size=true) (p:(((P.info? m).bind (·.zero)).map cv).bind ģ=some D) (q:Ù c D=some o) (h0:0<=n) (x:n.toNat<=4294967296) :
 Ķ P ν h w (Instr.makeSlice t (.int k n) (.int k n)) (.own nid 0) (ì h nid (.row c 0 false (List.replicate n.toNat o))):=by
 obtain⟨i,z,hi,u,I,A,s,d⟩:=jT f;have G:=jh y;have r:=Vv hi s p q H (av:=Av ν h) fun _ hb=>hb;have K:=HB (by rw[d]) r n.toNat;have E:IntKind.i64.wrap n=n:=Xx (by omega) (by omega)
 have b:=row_new (w':=w.alloc (.cells (Builtin.zeroCells z.cells n.toNat) m)) H (id:=nid) (g':=0) (xs':=List.replicate n.toNat o) (cap':=n.toNat) J
  (fun V=>by rw[hd]; trivial) rfl rfl rfl rfl (by simp) (by simp[size_zeroCells,d]) K (fun j v M=>by simpa using M)
 rw[fQ] at b;refine⟨_,_,_,?_,vl J rfl,b.2,b.1,Ï _ _ _⟩
 have B:¬(281474976710656:Int)<(i.bytes:Int)*n:=by
  have hb:n.toNat*i.bytes<=140737488355328:=by
   have:=gg x A;omega
  have:((n.toNat*i.bytes:Nat):Int)=i.bytes*n:=by
   rw[gU,gu h0,fP]
  omega
 have C:¬n<0:=by omega
 by_cases l:n.toNat*i.size=0
 ·have L:n.toNat=0:=by
   rcases Nat.mul_eq_zero.1 l with h|h
   ·exact h
   ·omega
  have g:n=0:=by omega
  subst g;simp[Instr.makeSlice,run_underlying G,sizeOf,typeInfo,zeroValue,hi,s,asInt,asIntOf,E,newRow,Builtin.zeroCells];congr 2;apply eX;simp[Array.toList_range]
 ·have e:z.cells.size=i.size:=by rw[d,u]
  simp[Instr.makeSlice,run_underlying G,sizeOf,typeInfo,zeroValue,hi,s,asInt,asIntOf,E,C,B,newRow,Builtin.zeroCells,e,l]
def Rm:∀(h:AS Blk) (id:Nat),ì h id (lkB h id)=h
 |[],_=>rfl
 |_::_,0=>rfl
 |x::h,id+1=>by simp[Fc,Fe,E9,Qf,Qg,Qd,Rm h id]
def agL {t ty:TypeId} {ts:Array TypeId} (G:ts[0]?=some t) {x:AV} {ux:Value} (H:HR ν h w) (e:Dw P h t x some=some h') (hun:(P.underlying t).isSome=true) (hx:VR ν h w x ux) :
 Ķ P ν h w (Builtin.clear_ ts ty #[ux]) (.tup []) h':=by
 obtain⟨d,hd⟩:=Option.isSome_iff_exists.1 hun;unfold Dw at e
 split at e
 ·cases e;have:ux=.slice none 0 0:=hx;subst this;refine Ķ.still H (u:=.tuple #[]) ?_ ⟨#[],rfl,trivial⟩
  cases d<;>simp[Builtin.clear_,G,run_underlying hd]
 ·rename_i id g lo n el hel;have ht:=jh hel
  split at e<;>try (cases e; done)
  rename_i zs D
  split at e<;>try (cases e; done)
  rename_i f g' xs Z
  split at e<;>try (cases e; done)
  rename_i hgg
  split at e<;>try (cases e; done)
  rename_i M hzv;cases e
  have hge:g=g':=by simpa using hgg
  subst hge;obtain⟨ho,t2,g2,fz2,xs2,Y,hle,hv2⟩:=hx;rw[Z] at Y; cases Y;obtain⟨X,base,cap,s,A⟩:=hv2 rfl;have hB:=H.blk id;rw[Z] at hB;obtain⟨base',cap',q1,q0,q2⟩:=hB
  rw[s] at q1; injection q1 with e1 e2 e3; subst e1; subst e3
  by_cases hn0:n=0
  ·-- nothing to clear
   subst hn0
   have I:xs.take lo++List.replicate 0 M++xs.drop (lo+0)=xs:=by simp
   rw[I];have hid:id<h.length:=Ņ Z (by simp)
   have S:ì h id (.row f g false xs)=h:=by rw[<-Z]; exact Rm h id
   rw[S];refine Ķ.still H (u:=.tuple #[]) ?_ ⟨#[],rfl,trivial⟩;rw[A];generalize (if cap=lo then base else Option.map (fun x=>x.add (lo*f.size)) base)=bb;generalize cap-lo=cc
   cases bb<;>(simp only[Builtin.clear_,G]; simp[run_underlying ht])
  rcases q2 with⟨rfl,rfl⟩|⟨b,off,c,e',rfl,q3,q4,q5⟩
  ·omega
  have hne:¬cap=lo:=by omega
  rw[if_neg hne] at A;simp only[dT,Ę] at A
  cases hi:P.info? el with
  |none=>simp[hi] at D
  |some i =>
  cases hz:i.zero with
  |none=>simp[hi,hz] at D
  |some z =>
  have E:=Vv hi hz D hzv H (av:=Av ν h) fun _ hb=>hb
  have R:z.cells.size=f.size:=by simpa using E.length
  have U:=HB (by rw[R]) E n
  have W:∀v∈(Builtin.zeroCells z.cells n).toList,v.oneCell'=true:=by
   intro v hv;obtain⟨j,p⟩:=List.mem_iff_getElem?.1 hv;simp only[Builtin.zeroCells,fU,Array.toList_range,gL] at p
   have K:j<n*z.cells.size:=by
    cases h1:(List.range (n*z.cells.size))[j]? with
    |none=>simp[h1] at p
    |some q=>simpa using(cO.1 h1).1
   rw[gw K] at p;simp only[dT,Option.some.injEq] at p
   have V:0<z.cells.size:=by
    rcases fC z.cells.size with h0|h0
    ·rw[h0] at K; simp at K
    ·exact h0
   have hm:=gJ j V;refine CR.oneCell E v ?_;rw[<-p,getElem!_pos z.cells (j % z.cells.size) hm];simp
  have L:(Builtin.zeroCells z.cells n).toList.length=n*f.size:=by simp[Builtin.zeroCells,R]
  have hln:lo*f.size+n*f.size<=cap*f.size:=by rw[<-dz]; exact dl _ (by omega)
  have C:off+lo*f.size+(Builtin.zeroCells z.cells n).toList.length<=c.size:=by rw[L]; omega
  have T:=run_storeCells_at P b (off+lo*f.size) e' (Builtin.zeroCells z.cells n).toList 0 c w q3 (by simpa using C) W;simp only[fE] at T
  have l:(xs.take lo++List.replicate n M++xs.drop (lo+n)).length=xs.length:=by simp; omega
  obtain⟨ev,hr⟩:=O8 H (xs':=xs.take lo++List.replicate n M++xs.drop (lo+n)) (g':=g) (o':=off) (cap':=cap)
   (c':=(c.toList.take (off+lo*f.size)++(Builtin.zeroCells z.cells n).toList++c.toList.drop (off+lo*f.size+(Builtin.zeroCells z.cells n).toList.length)).toArray) Z (by rw[s]; rfl) q3
   (by rw[l]; omega) (by simp only[eT,cN,di,gP,ft]; omega) (.inr ⟨rfl,by rw[l,s],l⟩) (fun j y p=>by
    have B:=fun k=>ob c.toList (Builtin.zeroCells z.cells n).toList (off+lo*f.size) k (by simpa using C);have hj2:=ob xs (List.replicate n M) lo j (by simpa using X);rw[fQ] at hj2;rw[hj2] at p
    have O:∀(y:Val f),xs[j]?=some y->(j<lo\/lo+n<=j)->∃us,CR w (Av ν h) f y us/\∀(k:Nat) (v:Value),us[k]?=some v->(c.toList.take (off+lo*f.size)++(Builtin.zeroCells z.cells n).toList++c.toList.drop (off+lo*f.size+(Builtin.zeroCells z.cells n).toList.length)).toArray[off+j*f.size+k]?=some v:=fun y hy r=>by
     obtain⟨us,N,q7⟩:=q5 j y hy;refine⟨us,N,fun k v J=>?_⟩
     have hkl:k<f.size:=by rw[<-N.length]; exact(cO.1 J).1
     have:=q7 k v J;simp only[World.cell?,q3] at this;rw[eD,B,L];rcases r with r|r
     ·have h5:=dl f.size (show j+1<=lo from r);rw[dz,fu] at h5;rw[if_pos (by omega)];simpa using this
     ·have h5:=dl f.size r;rw[dz] at h5;rw[if_neg (by omega),if_neg (by omega)];simpa using this
    split at p
    ·exact O y p (.inl ‹_›)
    ·split at p
     ·rename_i h1 h2;obtain⟨us,N,q7⟩:=U.cells (c:=(Builtin.zeroCells z.cells n)) (o:=0) (fun k v J=>by simpa using J) (j-lo) y (by simpa using p);refine⟨us,N,fun k v J=>?_⟩
      have hkl:k<f.size:=by rw[<-N.length]; exact(cO.1 J).1
      have h7:=q7 k v J
      have h5:j*f.size=lo*f.size+(j-lo)*f.size:=by rw[<-dz]; congr 1; omega
      have h6:=dl f.size (show j-lo+1<=n by omega);rw[dz,fu] at h6;rw[eD,B,L,if_neg (by omega),if_pos (by omega)];rw[show off+j*f.size+k-(off+lo*f.size)=0+(j-lo)*f.size+k by omega];simpa using h7
     ·exact O y p (.inr (by omega)))
  have hvs:í ν id (.slice (some ⟨b,off,none⟩) (xs.take lo++List.replicate n M++xs.drop (lo+n)).length cap)=ν:=by rw[l,<-s,i5]
  rw[hvs] at ev hr;refine⟨ν,_,.tuple #[],?_,⟨#[],rfl,trivial⟩,hr,ev,Ï _ _ _⟩;rw[A];obtain⟨m,rfl⟩:∃m,n=m+1:=⟨n-1,by omega⟩;simp only[Builtin.clear_,G];simp[run_underlying ht,zeroValue,typeInfo,hi,hz,T]
 ·cases e
def box_ok {nid:Nat} {x:AV} {c:Value} {cs:AS AV} {d:TypeId} (H:HR ν h w) (f:nid<h.length) (hd:lkB h nid=.dead) (j:ģ x=some cs) (g:VR ν h w x c) :
 Ķ P ν h w (Instr.box d c) (.box nid 0) (ì h nid (.cells cs)):=by
 have e:=g.cells j
 obtain⟨ev,i⟩:=Ev.new (w':=w.alloc (.cells c.cells d)) (o:=.cells c.cells d) H (id:=nid) (B:=.cells cs) (V:=.pointer (some ⟨w.heap.size,0,none⟩)) f hd rfl rfl rfl rfl (fun b hb=>by cases hb; rfl) fun ev =>
  ⟨w.heap.size,c.cells,d,Í _ _ _,heap_alloc_new w _,e.mono fun _ _=>VRc.ev ev⟩
 refine⟨_,_,.pointer (some ⟨w.heap.size,0,none⟩),?_,⟨cs,w.heap.size,Ü _ f,Í _ _ _,rfl⟩,i,ev,Ï _ _ _⟩;simp[Instr.box,newVar,newRow]
def ai1 {x:AV} {c:Value} {cs:AS AV} {d:TypeId} {ty:Ty} {y:Val ty} (H:HR ν h w) (l:ģ x=some cs) (i:Ù ty cs=some y) (j:VR ν h w x c) :
 Ķ P ν h w (Instr.box d c) (.eptr ty y 0) h:=by
 have e:=j.cells l;have g:(w.alloc (.cells c.cells d)).heap=w.heap.push (.cells c.cells d):=rfl;have f:=H.grow (w':=w.alloc (.cells c.cells d)) (fun b hb=>by rw[g]; simp[eG,fG hb]) (by rw[g]; simp) rfl rfl rfl h.length;refine⟨ν,_,.pointer (some ⟨w.heap.size,0,none⟩),?_,⟨w.heap.size,0,c.cells.toList,rfl,fun hb=>absurd (H.ltA hb) (Nat.lt_irrefl _),by rw[g]; simp,?_,?_⟩,f.2,f.1,rfl⟩
 ·simp[Instr.box,newVar,newRow]
 ·exact CR.keep f.1.keepA (Ĝ i (e.mono fun _ _ k=>k.1.data))
 ·exact Ď.of_cells (heap_alloc_new w _)
def ahe {nid:Nat} {z:AV} {cs:AS AV} {d:TypeId} (H:HR ν h w) (j:nid<h.length) (hd:lkB h nid=.dead) (f:((P.info? d).bind (·.zero)).map cv=some z) (l:ģ z=some cs) :
 Ķ P ν h w (Instr.alloc d true (.tuple #[])) (.box nid 0) (ì h nid (.cells cs)):=by
 cases hi:P.info? d with
 |none=>simp[hi] at f
 |some i =>
  cases c:i.zero with
  |none=>simp[hi,c] at f
  |some e =>
   simp only[hi,c,ez,dT,Option.some.injEq] at f;subst f;have g:=(US (ν:=ν) (h:=h) (w:=w) e).cells l
   obtain⟨ev,k⟩:=Ev.new (w':=w.alloc (.cells e.cells d)) (o:=.cells e.cells d) H (id:=nid) (B:=.cells cs) (V:=.pointer (some ⟨w.heap.size,0,none⟩)) j hd rfl rfl rfl rfl (fun b hb=>by cases hb; rfl) fun ev =>
    ⟨w.heap.size,e.cells,d,Í _ _ _,heap_alloc_new w _,g.mono fun _ _=>VRc.ev ev⟩
   refine⟨_,_,.pointer (some ⟨w.heap.size,0,none⟩),?_,⟨cs,w.heap.size,Ü _ j,Í _ _ _,rfl⟩,k,ev,Ï _ _ _⟩;simp[Instr.alloc,zeroValue,typeInfo,hi,c,newVar,newRow]
def aaa {nid:Nat} {t:TypeId} (k v:Ty) (H:HR ν h w) (c:nid<h.length) (hd:lkB h nid=.dead):Ķ P ν h w (Instr.makeMap t none) (.omp nid) (ì h nid (.map k v [])):=by
 obtain⟨ev,d⟩:=Ev.new (w':=w.alloc (.map #[] 0)) (o:=.map #[] 0) H (id:=nid) (B:=.map k v []) (V:=.map (some w.heap.size)) c hd rfl rfl rfl rfl (fun b hb=>by cases hb; rfl) fun ev =>
  ⟨w.heap.size,#[],0,Í _ _ _,heap_alloc_new w _,rfl,fun i e hi=>by simp at hi⟩
 refine⟨_,_,.map (some w.heap.size),?_,⟨rfl,k,v,[],Ü _ c,(Í _ _ _).symm⟩,d,ev,Ï _ _ _⟩;simp[Instr.makeMap]
end
end Go.Am
end

noncomputable section
namespace Go.Am
variable [ë] [Ð]
section
variable {ν ν':Nat->Value} {h h':AS Blk} {w w':World} {P:Program}
def Kv (off:Nat):∀(vs:AS Value) (k:Nat) (cells:Array Value),off+k+vs.length<=cells.size ->
 ((vs.zipIdx k).foldl (fun cs (p:Value×Nat)=>cs.setIfInBounds (off+p.2) p.1) cells).toList=cells.toList.take (off+k)++vs++cells.toList.drop (off+k+vs.length)
 |[],k,cells,_=>by simp
 |v::vs,k,cells,d=>by
  simp only[cY] at d;have c:=Kv off vs (k+1) (cells.setIfInBounds (off+k) v) (by simp; omega);simp only[List.zipIdx_cons,fk,c,Array.toList_setIfInBounds]
  have b:off+k<cells.toList.length:=by simp; omega
  have e:(cells.toList.set (off+k) v).take (off+(k+1))=cells.toList.take (off+k)++[v]:=by
   rw[show off+(k+1)=off+k+1 by omega,List.take_add_one];rw[List.take_set_of_le (by omega),List.getElem?_set_self b]; rfl
  have h2:(cells.toList.set (off+k) v).drop (off+(k+1)+vs.length)=cells.toList.drop (off+k+(v::vs).length):=by
   rw[List.drop_set_of_lt (by omega)];simp only[cY];congr 1; omega
  rw[e,h2];simp
def wu {place:Nat->AN (Nat×Nat)} {cells:Array Value} {i:Nat} {v:Value} {rest:AS (Nat×Value)} {off size:Nat} (d:place i=some (off,size)) (c:v.cells.size=size) (e:off+size<=cells.size) :
 Instr.fill place cells ((i,v)::rest)=Instr.fill place (cells.toList.take off++v.cells.toList++cells.toList.drop (off+size)).toArray rest:=by
 have h0:¬(v.cells.size≠size\/off+v.cells.size>cells.size):=by omega
 have b:=Kv off v.cells.toList 0 cells (by simp; omega);simp only[Instr.fill,d];rw[if_neg (by simpa using h0)];congr 1;apply eX;simp only[fE,ft,c] at b;rw[<-b,<-Array.foldl_toList,Array.toList_zipIdx]
def YZ {fs:Array Field} {places:Nat->AN (Nat×Nat)} (t:∀i f n,fs[i]?=some f->szP P f.type=some n->places i=some (f.offset,n)) :
 ∀(ps:AS (Nat×AV)) (us:AS (Nat×Value)) (cs d:AS AV) (c:Array Value),aaL P fs ps cs=some d->ò (fun a b=>a.1=b.1/\VR ν h w a.2 b.2) ps us->ò (VRc ν h w) cs c.toList ->
  ∃c',Instr.fill places c us=some c'/\ò (VRc ν h w) d c'.toList
 |[],[],cs,d,c,e,_,p=>by cases e; exact⟨c,rfl,p⟩
 |[],_::_,_,_,_,_,g,_=>g.elim
 |_::_,[],_,_,_,_,g,_=>g.elim
 |(i,v)::ps,(j,u)::us,cs,d,c,e,g,p=>by
  obtain⟨⟨o,k⟩,g⟩:=g;simp only at o; subst o;simp only[aaL] at e
  split at e<;>try (cases e; done)
  rename_i f y
  split at e<;>try (cases e; done)
  rename_i vs l
  split at e<;>try (cases e; done)
  rename_i r
  split at e<;>try (cases e; done)
  rename_i z m;obtain⟨rfl,h2⟩:=qJ m;have s:=k.cells l;have q:=ET k l;have x:=p.length;simp at x
  have r:szP P f.type=some vs.length:=by simpa using r
  rw[wu (t i f _ y r) q (by omega)];exact YZ t ps us _ d _ e g (((p.take _).append s).append (p.drop _))
def OD {sz:Nat} {places:Nat->AN (Nat×Nat)} (s:∀i,places i=some (i*sz,sz)) :
 ∀(ps:AS (Nat×AV)) (us:AS (Nat×Value)) (cs d:AS AV) (c:Array Value),EJ sz ps cs=some d->ò (fun a b=>a.1=b.1/\VR ν h w a.2 b.2) ps us->ò (VRc ν h w) cs c.toList ->
  ∃c',Instr.fill places c us=some c'/\ò (VRc ν h w) d c'.toList
 |[],[],cs,d,c,e,_,o=>by cases e; exact⟨c,rfl,o⟩
 |[],_::_,_,_,_,_,f,_=>f.elim
 |_::_,[],_,_,_,_,f,_=>f.elim
 |(i,v)::ps,(j,u)::us,cs,d,c,e,f,o=>by
  obtain⟨⟨m,g⟩,f⟩:=f;simp only at m; subst m;simp only[EJ] at e
  split at e<;>try (cases e; done)
  rename_i vs k
  split at e<;>try (cases e; done)
  rename_i q
  split at e<;>try (cases e; done)
  rename_i x l;obtain⟨rfl,h2⟩:=qJ l;have r:=g.cells k;have p:=ET g k;have t:=o.length;simp at t
  have q:vs.length=sz:=by simpa using q
  subst q;rw[wu (s i) p (by omega)];exact OD s ps us _ d _ e f (((o.take _).append r).append (o.drop _))
def AY {S:St} {a:Act} (H:Sim ν S a w):∀(ps:AS (Nat×Operand)),ò (fun(x:Nat×AV) (y:Nat×Value)=>x.1=y.1/\VR ν S.h w x.2 y.2) (ps.map fun p=>(p.1,ev S.t p.2)) (ps.map fun p=>(p.1,a.eval p.2))
 |[]=>trivial
 |p::ps=>⟨⟨rfl,Ć H p.2⟩,AY H ps⟩
def yf (w:World):∀(fs:AS Field),fs.all (fun f=>(P.info? f.type).isSome)=true ->
 ∃l:AS (Nat×Nat),(fs.mapM (m:=Sem) fun(f:Field)=>do pure (f.offset,<-sizeOf f.type)).run P w=.ok l w/\∀(i:Nat),l[i]?=(fs[i]?).bind fun(f:Field)=>(szP P f.type).map fun n=>(f.offset,n)
 |[],_=>⟨[],rfl,fun i=>by simp⟩
 |f::fs,ha=>by
  simp only[eQ,cM] at ha;obtain⟨i,hi⟩:=gG.1 ha.1;obtain⟨l,c,h2⟩:=yf w fs ha.2
  have b:szP P f.type=some i.size:=by simp[szP,hi]
  refine⟨(f.offset,i.size)::l,?_,fun j=>?_⟩
  ·simp only[List.mapM_cons,Sem.run_bind,lg b,Result.andThen_ok,Sem.run_pure];rw[c]; rfl
  ·cases j with
   |zero=>simp[b]
   |succ j=>simpa using h2 j
def MS {S:St} {a:Act} {t:TypeId} {fs:Array Field} {ps:Array (Nat×Operand)} {z:AV} {e cs:AS AV} (H:Sim ν S a w) (s:P.underlying t=some (.struct fs)) (q:fs.toList.all (fun f=>(P.info? f.type).isSome)=true)
 (c:((P.info? t).bind (·.zero)).map cv=some z) (g:ģ z=some e) (C:aaL P fs (ps.toList.map fun p=>(p.1,ev S.t p.2)) e=some cs) :
 Ķ P ν S.h w (Instr.build t (ps.map fun(i,x)=>(i,a.eval x))) (.agg cs) S.h:=by
 cases hi:P.info? t with
 |none=>simp[hi] at c
 |some i =>
 cases b:i.zero with
 |none=>simp[hi,b] at c
 |some d =>
 simp only[hi,b,ez,dT,Option.some.injEq] at c;subst c;have D:=(US (ν:=ν) (h:=S.h) (w:=w) d).cells g;obtain⟨l,o,k⟩:=yf (P:=P) w fs.toList q
 obtain⟨c',E,h2⟩:=YZ (ν:=ν) (h:=S.h) (w:=w) (P:=P) (fs:=fs) (places:=fun j=>l[j]?) (fun j f n B y=>by
  show l[j]?=_
  rw[k j]; simp only[gj]; rw[B]; simp[y]) _ _ e cs d.cells C (AY H ps.toList) D
 refine Ķ.still H.heap (u:=.agg c') ?_ ⟨c',rfl,h2⟩
 have A:(fs.mapM (m:=Sem) fun f=>do pure (f.offset,<-sizeOf f.type)).run P w=.ok l.toArray w:=by
  rw[Array.mapM_eq_mapM_toList,Sem.run_map,o]; rfl
 have v:(ps.map fun(x:Nat×Operand)=>(x.1,a.eval x.2)).toList=ps.toList.map fun p=>(p.1,a.eval p.2):=by simp
 simp only[Instr.build,Sem.run_bind,zeroValue,typeInfo,run_program,Result.andThen_ok,hi,b,Sem.run_pure,run_underlying s];rw[A];simp only[Result.andThen_ok]
 have r:Instr.fill (fun x=>l.toArray[x]?) d.cells (ps.map fun(x:Nat×Operand)=>(x.1,a.eval x.2)).toList=some c':=by
  rw[v]; simpa using E
 erw [r]
 rfl
end
end Go.Am
end

noncomputable section
namespace Go.Am
variable [ë] [Ð]
section
variable {ν ν':Nat->Value} {h h':AS Blk} {w w':World} {P:Program}
def Xk {S:St} {a:Act} {t e:TypeId} {n sz:Nat} {ps:Array (Nat×Operand)} {z:AV} {f cs:AS AV} (H:Sim ν S a w) (l:P.underlying t=some (.array n e)) (m:szP P e=some sz)
 (c:((P.info? t).bind (·.zero)).map cv=some z) (g:ģ z=some f) (q:EJ sz (ps.toList.map fun p=>(p.1,ev S.t p.2)) f=some cs) :
 Ķ P ν S.h w (Instr.build t (ps.map fun(i,x)=>(i,a.eval x))) (.agg cs) S.h:=by
 cases hi:P.info? t with
 |none=>simp[hi] at c
 |some i =>
 cases b:i.zero with
 |none=>simp[hi,b] at c
 |some d =>
 simp only[hi,b,ez,dT,Option.some.injEq] at c;subst c;have r:=(US (ν:=ν) (h:=S.h) (w:=w) d).cells g;obtain⟨c',s,h2⟩:=OD (ν:=ν) (h:=S.h) (w:=w) (sz:=sz) (places:=fun j=>some (j*sz,sz)) (fun j=>rfl) _ _ f cs d.cells q (AY H ps.toList) r;refine Ķ.still H.heap (u:=.agg c') ?_ ⟨c',rfl,h2⟩
 have o:(ps.map fun(x:Nat×Operand)=>(x.1,a.eval x.2)).toList=ps.toList.map fun p=>(p.1,a.eval p.2):=by simp
 simp only[Instr.build,Sem.run_bind,zeroValue,typeInfo,run_program,Result.andThen_ok,hi,b,Sem.run_pure,run_underlying l,lg m]
 have k:Instr.fill (fun j=>some (j*sz,sz)) d.cells (ps.map fun(x:Nat×Operand)=>(x.1,a.eval x.2)).toList=some c':=by rw[o]; exact s
 erw [k]
 rfl
def ab8 {t:TypeId} {agg:Bool} {n o:Nat} {cs f:AS AV} {v:AV} {us:Array Value} (H:HR ν h w) (m:ldP P t=some (agg,n)) (p:Hs cs o n=some f) (k:mkv agg f=some v) (q:ò (VRc ν h w) cs us.toList) :
 Ķ P ν h w (part t us o) v h:=by
 obtain⟨d,hd,rfl,i⟩:=Qk m;obtain⟨x,h2⟩:=mB p
 have b:ò (VRc ν h w) f ((us.toList.drop o).take n):=by rw[x]; exact(q.drop o).take n
 obtain⟨s,r⟩:=ahB k b;refine Ķ.still H ?_ s;unfold part;simp only[Sem.run_bind,uV hd,Result.andThen_ok]
 cases e:Lv d with
 |true =>
  simp only[if_true,Sem.run_bind,lg i,Result.andThen_ok,Sem.run_pure,Vr];congr 2;apply eX;rw[Array.toList_extract,List.extract_eq_take_drop];congr 1; omega
 |false =>
  have j:n=1:=by rw[<-h2]; exact r e
  subst j;simp only[Vr]
  cases g:us.toList.drop o with
  |nil=>rw[g] at b; have:=b.length; rw[h2] at this; simp at this
  |cons u rest =>
   have c:us[o]?=some u:=by
    have:=congrArg (fun l=>l[0]?) g;simpa using this
   simp[c]
def agr {t:TypeId} {f:Nat} {fs:Array Field} {b:Field} {agg:Bool} {n:Nat} {cs d:AS AV} {v:AV} {c:Value} (H:HR ν h w) (g:P.underlying t=some (.struct fs)) (l:fs[f]?=some b)
 (j:ldP P b.type=some (agg,n)) (k:Hs cs b.offset n=some d) (i:mkv agg d=some v) (e:VR ν h w (.agg cs) c):Ķ P ν h w (Instr.field t c f) v h:=by
 obtain⟨us,rfl,m⟩:=e;obtain⟨ν',w',u,o,h2⟩:=ab8 (P:=P) H j k i m;refine⟨ν',w',u,?_,h2⟩;simp only[Instr.field,Sem.run_bind,run_underlying g,Result.andThen_ok,l,asAgg,Sem.run_pure];exact o
def WJ {t e:TypeId} {n m:Nat} {k:IntKind} {j:Int} {agg:Bool} {cs f:AS AV} {v:AV} {b:Value} (H:HR ν h w) (i:P.underlying t=some (.array n e))
 (p:0<=j/\j<n) (c:ldP P e=some (agg,m)) (q:Hs cs (j.toNat*m) m=some f) (o:mkv agg f=some v) (g:VR ν h w (.agg cs) b):Ķ P ν h w (Instr.index t b (.int k j)) v h:=by
 obtain⟨us,rfl,r⟩:=g;obtain⟨ν',w',u,s,h2⟩:=ab8 (P:=P) H c q o r;obtain⟨d,hd,_,l⟩:=Qk c;refine⟨ν',w',u,?_,h2⟩;simp only[Instr.index,asIntOf,Sem.run_bind,Sem.run_pure,run_underlying i,Result.andThen_ok,p,and_self,if_true,lg l];exact s
def shift_ok {x v:AV} {j:Value} {o:Nat} (e:uT h x o some=some v) (d:VR ν h w x j):∃a,j=.pointer (some a)/\VR ν h w v (.pointer (some (a.add o))):=by
 unfold uT at e
 split at e<;>try (cases e; done)
 ·cases e;obtain⟨cs,b,c,h2,rfl⟩:=d;exact⟨_,rfl,cs,b,c,h2,by rw[Ę]⟩
 ·cases e;obtain⟨b,o',us,rfl,c,h2,i,g⟩:=d;exact⟨_,rfl,b,o',us,by rw[Ę,fh],c,h2,i,g⟩
 ·split at e<;>try (cases e; done)
  rename_i t g' fz xs k
  split at e<;>try (cases e; done)
  rename_i f;cases e;obtain⟨q,t2,r,p,l,c,h2,i⟩:=d;rw[k] at c; cases c;have m:=eq_of_beq f;subst m;obtain⟨hi,b,o',cap,g,rfl⟩:=i rfl;exact⟨_,rfl,by rw[Ę]; rfl,_,_,_,_,k,cJ _,fun _=>⟨hi,b,o',cap,g,by rw[Ę,fh]⟩⟩
def UB {t:TypeId} {f:Nat} {fs:Array Field} {b:Field} {n:Nat} {x v:AV} {c:Value} (H:HR ν h w) (g:P.underlying t=some (.struct fs)) (j:fs[f]?=some b)
 (i:szP P b.type=some (n+1)) (e:uT h x b.offset some=some v) (d:VR ν h w x c):Ķ P ν h w (Instr.fieldAt t c f) v h:=by
 obtain⟨a,rfl,k⟩:=shift_ok e d;refine Ķ.still H ?_ k;simp[Instr.fieldAt,Instr.sureAddr,run_underlying g,j,fieldPlace,lg i]
def Ki {t e:TypeId} {n sz id off:Nat} {k:IntKind} {j:Int} {c:Value} (H:HR ν h w) (f:P.underlying t=some (.array n e)) (i:0<=j/\j<n) (g:szP P e=some sz) (d:VR ν h w (.box id off) c) :
 Ķ P ν h w (Instr.indexAt t c (.int k j)) (.box id (off+j.toNat*sz)) h:=by
 obtain⟨cs,b,l,h2,rfl⟩:=d;refine Ķ.still H (u:=.pointer (some ⟨b,off+j.toNat*sz,none⟩)) ?_ ⟨cs,b,l,h2,rfl⟩;simp[Instr.indexAt,Instr.sureAddr,asIntOf,run_underlying f,lg g,i,Ę]
def Q2 {k:IntKind} {n:Int} {v:AV} (e:arK k n some=some v):v=.int k (k.wrap n):=by
 unfold arK at e;cases e
 cases k<;>rfl
def Ij {gt:Bool} {f:Value->Value->Sem Value} (m:∀(k:IntKind) (a b:Int),(f (.int k a) (.int k b)).run P w=.ok (.int k (match gt with|true=>Lu a b|false=>Uk a b)) w) :
 ∀(l:AS AV) (us:AS Value) (x v:AV) (c:Value),jk gt x l some=some v->VR ν h w x c->ò (VR ν h w) l us->∃u,(us.foldlM f c).run P w=.ok u w/\VR ν h w v u
 |[],[],x,v,c,e,j,_=>by cases e; exact⟨c,rfl,j⟩
 |[],_::_,_,_,_,_,_,d=>d.elim
 |_::_,[],_,_,_,_,_,d=>d.elim
 |y::l,uy::us,x,v,c,e,j,d=>by
  cases x<;>try (simp[jk] at e; done)
  cases y<;>try (simp[jk] at e; done)
  rename_i k a s b;simp only[jk] at e
  split at e<;>try (cases e; done)
  rename_i o _;subst o
  have i:∀g:Bool,(match g with|true=>jk true (.int k (Lu a b)) l some|false=>jk false (.int k (Uk a b)) l some)=some v->jk g (.int k (match g with|true=>Lu a b|false=>Uk a b)) l some=some v:=fun g h=>by cases g<;>exact h
  have e:=i gt e;have r:c=.int k a:=j;have h2:uy=.int k b:=d.1;subst r h2;obtain⟨u,q,p⟩:=Ij m l us _ v _ e (show VR ν h w (.int k _) (.int k _) from rfl) d.2;refine⟨u,?_,p⟩;simp only[List.foldlM_cons,Sem.run_bind,m,Result.andThen_ok];exact q
end
end Go.Am
end

noncomputable section
namespace Go.Am
variable [ë] [Ð]
section
variable {ν ν':Nat->Value} {h h':AS Blk} {w w':World} {P:Program}
def lH {t:TypeId} {k:Ty} (b:Ez P t k=true) :
 (P.underlying t=some .bool/\k=.bool)\/(∃i,P.underlying t=some (.int i)/\k=.int i):=by
 unfold Ez at b
 split at b<;>try (cases b; done)
 ·split at b<;>try (cases b; done)
  exact .inl ⟨‹_›,rfl⟩
 ·split at b<;>try (cases b; done)
  have:=eq_of_beq b;subst this;exact .inr ⟨_,‹_›,rfl⟩
def keyVal:(k:Ty)->Val k->Value
 |.bool,b=>.bool b
 |.int i,n=>.int i n
 |.str,s=>.string s
 |_,_=>undef
def CR.keyVal {av:Nat->Prop} {t:TypeId} {k:Ty} {x:Val k} {v:Value} (b:Ez P t k=true) (c:CR w av k x [v]):v=keyVal k x:=by
 rcases lH b with⟨_,rfl⟩|⟨i,_,rfl⟩
 all_goals
  have:[v]=[_]:=c;simpa[Am.keyVal] using this
def adl {av:Nat->Prop} {t:TypeId} {k:Ty} {x:Val k} (b:Ez P t k=true):CR w av k x [keyVal k x]:=by
 rcases lH b with⟨_,rfl⟩|⟨i,_,rfl⟩<;>exact(rfl:[_]=[_])
def Fh {t:TypeId} {k:Ty} {x:Val k} {empty:Bool} (c:Ez P t k=true) (m:Nat):(Instr.checkKey empty (m+1) t (keyVal k x)).run P w=.ok () w:=by
 rcases lH c with⟨b,rfl⟩|⟨i,b,rfl⟩<;>simp[Instr.checkKey,run_underlying b,keyVal]
def zG {t:TypeId} {k:Ty} (c:Ez P t k=true):∃d,P.underlying t=some d/\∀x y:Val k,Instr.sameNow d (keyVal k x) (keyVal k y)=some (jN k x y):=by
 rcases lH c with⟨b,rfl⟩|⟨i,b,rfl⟩
 ·exact⟨_,b,fun _ _=>rfl⟩
 ·refine⟨_,b,fun x y=>?_⟩;simp only[Instr.sameNow,keyVal,jN,if_true];congr 1
def Ents (w:World) (av:Nat->Prop) (k v:Ty) (es:AS (Val k×Val v)) (b:AS MapEntry):Prop :=
 ò (fun(e:Val k×Val v) (m:MapEntry)=>m.key=keyVal k e.1/\∃us,CR w av v e.2 us/\m.val=uC v us) es b
def EI {d:TypeDesc} {av:Nat->Prop} {k v:Ty} {x:Val k} (hd:∀y,Instr.sameNow d (keyVal k x) (keyVal k y)=some (jN k x y)):∀(es:AS (Val k×Val v)) (ms:AS MapEntry) (i:Nat),Ents w av k v es ms ->
 (qT x es=none/\Instr.findNow d (keyVal k x) ms i=some none) \/
 ∃y j us,qT x es=some y/\Instr.findNow d (keyVal k x) ms i=some (some (i+j,uC v us))/\CR w av v y us/\j<es.length/\(∀b,Hf x b es=es.set j (x,b))/\∃e,es[j]?=some e/\jN k x e.1=true
 |[],[],i,_=>.inl ⟨rfl,rfl⟩
 |[],_::_,_,f=>f.elim
 |_::_,[],_,f=>f.elim
 |e::es,m::ms,i,f=>by
  obtain⟨⟨z,us,h2,u⟩,f⟩:=f;have g:=hd e.1;rw[<-z] at g
  cases c:jN k x e.1 with
  |true =>
   rw[c] at g;exact .inr ⟨e.2,0,us,by simp[qT,c],by simp[Instr.findNow,g,u],h2,by simp,fun b=>by simp[Hf,c],e,rfl,c⟩
  |false =>
   rw[c] at g;rcases EI hd es ms (i+1) f with⟨p,o⟩|⟨y,j,l,p,o,t,B,s,A,r,q⟩
   ·exact .inl ⟨by simp[qT,c,p],by simp[Instr.findNow,g,o]⟩
   ·refine .inr ⟨y,j+1,l,by simp[qT,c,p],by simp[Instr.findNow,g,o]; omega,t,by simp; omega,fun b=>by simp[Hf,c,s],A,by simpa using r,q⟩
def SS {k v:Ty} {x:Val k} {b:Val v}:∀{es:AS (Val k×Val v)},qT x es=none->Hf x b es=es++[(x,b)]
 |[],_=>rfl
 |e::es,c=>by
  cases d:jN k x e.1 with
  |true=>simp[qT,d] at c
  |false=>simp only[qT,d] at c; simp[Hf,d,SS c]
def ents (H:HR ν h w) {t:TypeId} {m:AV} {um:Value} {k v:Ty} {es:AS (Val k×Val v)} (A:Ez P t k=true) (p:VR ν h w m um) (e:ñ h m=.mp k v es) :
 ∃r,um=.map r/\((r=none/\es=[])\/∃b c d,r=some b/\w.heap[b]?=some (.map c d)/\Ents w (Av ν h) k v es c.toList):=by
 have fin:∀(c:Array MapEntry),c.size=es.length->(∀(i:Nat) (e:Val k×Val v),es[i]?=some e->∃(m:MapEntry) (us:AS Value),c[i]?=some m/\CR w (Av ν h) k e.1 [m.key]/\CR w (Av ν h) v e.2 us/\m.val=uC v us) ->
  Ents w (Av ν h) k v es c.toList:=fun c z B=>by
  refine ò.of_get (by simpa using z.symm) fun i a b ha hb=>?_;obtain⟨m,us,l,h2,j,f⟩:=B i a ha
  have:b=m:=by simp at hb; rw[l] at hb; exact(Option.some.inj hb).symm
  subst this;exact⟨CR.keyVal A h2,us,j,f⟩
 cases m with
 |mp x u o =>
  simp only[ñ] at e;cases e;obtain⟨r,l,h2⟩:=p;refine⟨r,by simpa using l,?_⟩;rcases h2 with h2|⟨b,c,d,h2,_,j,f,C⟩
  ·exact .inl h2
  ·exact .inr ⟨b,c,d,h2,j,fin c f C⟩
 |omp id =>
  obtain⟨D,x,u,o,q,y⟩:=p;simp only[ñ,q] at e;cases e;have s:=H.blk id;rw[q] at s;obtain⟨b,c,d,l,h2,j,f⟩:=s;exact⟨some b,by rw[y,l],.inr ⟨b,c,d,rfl,h2,fin c j f⟩⟩
 |own id g=>simp only[ñ] at e; (repeat' split at e)<;>cases e
 |sub id g lo n=>simp only[ñ] at e; (repeat' split at e)<;>cases e
 |_=>simp[ñ] at e
def DR {t:TypeId} {k:Ty} {i:AV} {ui:Value} {x:Val k} (c:Ez P t k=true) (hi:VR ν h w i ui) (e:Ù k [i]=some x):ui=keyVal k x:=by
 rcases lH c with⟨_,rfl⟩|⟨j,_,rfl⟩
 ·cases i<;>simp[Ù,Ő] at e; subst e; exact hi
 ·cases i<;>try (simp[Ù,Ő] at e; done)
  rename_i f n;simp only[Ù,Ő] at e
  split at e<;>try (cases e; done)
  rename_i y b
  split at b<;>try (cases b; done)
  rename_i d _;subst d; cases b; cases e; exact hi
def adh (ok:Bool) (y:AV) (b:Bool):AN AV:=match ok with|true=>some (.tup [y,.bool b])|false=>some y
def Ua {t:TypeId} {m i v:AV} {um ui:Value} {ok:Bool} (H:HR ν h w) (e:lF P h t m i ok some=some v) (hm:VR ν h w m um) (hi:VR ν h w i ui):∃u,(Instr.lookup t um ui ok).run P w=.ok u w/\VR ν h w v u:=by
 unfold lF at e
 split at e<;>try (cases e; done)
 rename_i L et E
 split at e<;>try (cases e; done)
 rename_i k D z hkt het N
 cases s:P.info? et with
 |none=>simp[s] at N
 |some M =>
 cases C:M.zero with
 |none=>simp[s,C] at N
 |some o =>
 simp only[s,C,ez,dT,Option.some.injEq] at N;subst N
 -- what the run does, once the search is known
 have run:∀(x:Val k) (r:AN Nat) (ms:AS MapEntry),Ez P L k=true->ui=keyVal k x->um=.map r->(r=none/\ms=[]\/∃b c f,r=some b/\w.heap[b]?=some (.map c f)/\c.toList=ms) ->
  ∀d,P.underlying L=some d ->
  (∀y j,Instr.findNow d (keyVal k x) ms 0=some (some (j,y))->(Instr.lookup t um ui ok).run P w=.ok (if ok then .tuple #[y,.bool true] else y) w) /\
  (Instr.findNow d (keyVal k x) ms 0=some none->(Instr.lookup t um ui ok).run P w=.ok (if ok then .tuple #[o,.bool false] else o) w):=by
  intro x r ms B R p T d hd;subst R p;have A:=fun em=>Fh (P:=P) (w:=w) (x:=x) (empty:=em) B 9999;have A:∀em,(Instr.checkKey em 10000 L (keyVal k x)).run P w=.ok () w:=A;rcases T with⟨rfl,rfl⟩|⟨b,c,f,rfl,hb,rfl⟩
  ·constructor
   ·intro y j I; simp[Instr.findNow] at I
   ·intro I;simp only[Instr.lookup,Sem.run_bind,run_underlying E,Result.andThen_ok,Sem.run_pure,A];simp[Instr.findKey,run_underlying hd,Instr.findNow,zeroValue,typeInfo,s,C]
  ·constructor
   ·intro y j I;simp only[Instr.lookup,Sem.run_bind,run_underlying E,Result.andThen_ok,Sem.run_pure,i6 hb,A];simp[Instr.findKey,run_underlying hd,I]
   ·intro I;simp only[Instr.lookup,Sem.run_bind,run_underlying E,Result.andThen_ok,Sem.run_pure,i6 hb,A];simp[Instr.findKey,run_underlying hd,I,zeroValue,typeInfo,s,C]
 have K:∀{V:AV},adh ok (cv o) false=some V->VR ν h w V (if ok then .tuple #[o,.bool false] else o):=fun {V} hV=>by
  cases ok with
  |false=>cases hV; exact US o
  |true =>
   cases hV;refine⟨#[o,.bool false],rfl,?_,rfl,trivial⟩;have:=US (ν:=ν) (h:=h) (w:=w) o
   cases E:(cv o).isTup with
   |true=>exact absurd E (by rw[UR]; simp)
   |false=>rwa [sa E] at this
 split at e<;>try (cases e; done)
 ·rename_i k' v' es B l
  split at e<;>try (cases e; done)
  rename_i W _;cases W
  split at e<;>try (cases e; done)
  rename_i x O;have G:=DR B hi O;obtain⟨d,hd,q⟩:=zG (P:=P) (t:=L) (k:=k) B;obtain⟨r,p,T⟩:=ents H B hm l
  have S:∃ms,Ents w (Av ν h) k D es ms/\(r=none/\ms=[]\/∃b c f,r=some b/\w.heap[b]?=some (.map c f)/\c.toList=ms):=by
   rcases T with⟨rfl,rfl⟩|⟨b,c,f,rfl,hb,X⟩
   ·exact⟨[],trivial,.inl ⟨rfl,rfl⟩⟩
   ·exact⟨_,X,.inr ⟨b,c,f,rfl,hb,rfl⟩⟩
  obtain⟨ms,X,U⟩:=S;obtain⟨r1,r2⟩:=run x r ms B G p U d hd;rcases EI (q x) es ms 0 X with⟨Z,Y⟩|⟨y,j,us,Z,Y,h6,_⟩
  ·have J:(match (qT x es:AN (Val D)) with|some y=>adh ok (enc D y) true|none=>adh ok (cv o) false)=some v:=e;rw[Z] at J;exact⟨_,r2 Y,K J⟩
  ·have J:(match (qT x es:AN (Val D)) with|some y=>adh ok (enc D y) true|none=>adh ok (cv o) false)=some v:=e;rw[Z] at J;refine⟨_,r1 _ _ Y,?_⟩;have hv:=Dl h6
   cases ok with
   |false=>cases J; exact hv
   |true =>
    cases J;refine⟨#[uC D us,.bool true],rfl,?_,rfl,trivial⟩
    have E:(enc D y).isTup=false:=by cases D<;>rfl
    rwa [sa E] at hv
 ·rename_i B l
  split at e<;>try (cases e; done)
  rename_i x O;have G:=DR B hi O;obtain⟨d,hd,q⟩:=zG (P:=P) (t:=L) (k:=k) B
  have p:um=.map none:=by
   cases m with
   |nilm=>exact hm
   |own id g=>simp only[ñ] at l; (repeat' split at l)<;>cases l
   |sub id g lo n=>simp only[ñ] at l; (repeat' split at l)<;>cases l
   |omp id=>simp only[ñ] at l; (repeat' split at l)<;>cases l
   |_=>simp[ñ] at l
  obtain⟨r1,r2⟩:=run x none [] B G p (.inl ⟨rfl,rfl⟩) d hd;exact⟨_,r2 rfl,K e⟩
def ac6 {t:TypeId} {m i v:AV} {um ui:Value} {ok:Bool} (H:HR ν h w) (e:lF P h t m i ok some=some v) (b:VR ν h w m um) (hi:VR ν h w i ui):Ķ P ν h w (Instr.lookup t um ui ok) v h:=by
 obtain⟨u,c,h2⟩:=Ua H e b hi;exact Ķ.still H c h2
def DU {x:AV} {cs:AS AV} (e:ģ (XJ h x)=some cs):∃vs,ģ x=some vs/\cs=vs.map (ñ h):=by
 cases x with
 |agg l=>simp only[XJ,ģ,Option.some.injEq] at e; exact⟨l,rfl,e.symm⟩
 |any=>cases e
 |und=>cases e
 |tup=>cases e
 |own id g =>
  refine⟨_,rfl,?_⟩;simp only[XJ] at e
  have:ñ h (.own id g)=.any\/∃t xs,ñ h (.own id g)=.fsc t xs:=by
   simp only[ñ]; (repeat' split)<;>first|exact .inl rfl|exact .inr ⟨_,_,rfl⟩
  rcases this with b|⟨t,xs,b⟩<;>rw[b] at e<;>cases e
  simp[b]
 |sub id g lo n =>
  refine⟨_,rfl,?_⟩;simp only[XJ] at e
  have:ñ h (.sub id g lo n)=.any\/∃t xs,ñ h (.sub id g lo n)=.fsc t xs:=by
   simp only[ñ]; (repeat' split)<;>first|exact .inl rfl|exact .inr ⟨_,_,rfl⟩
  rcases this with b|⟨t,xs,b⟩<;>rw[b] at e<;>cases e
  simp[b]
 |omp id =>
  refine⟨_,rfl,?_⟩;simp only[XJ] at e
  have:ñ h (.omp id)=.any\/∃k v xs,ñ h (.omp id)=.mp k v xs:=by
   simp only[ñ]; (repeat' split)<;>first|exact .inl rfl|exact .inr ⟨_,_,_,rfl⟩
  rcases this with b|⟨k,v,xs,b⟩<;>rw[b] at e<;>cases e
  simp[b]
 |_=>cases e; exact⟨_,rfl,rfl⟩
def YU {a:AV} {id:Nat} {k v:Ty} {es:AS (Val k×Val v)} (b:lkB h id=.map k v es):lkB (o9 h a) id=.map k v es:=by
 have c:∀(j g:Nat) (t:Ty) (fz:Bool) (xs:AS (Val t)),lkB h j=.row t g fz xs->lkB (ì h j (.row t g true xs)) id=.map k v es:=fun j g t fz xs d=>by
  by_cases e:id=j
  ·subst e; rw[b] at d; cases d
  ·rw[Ó _ e]; exact b
 cases a<;>try exact b
 all_goals
  simp only[o9]
  split
  ·exact c _ _ _ _ _ ‹_›
  ·exact b
def Qp {id:Nat} {k v:Ty} {es:AS (Val k×Val v)}:∀(as:AS AV) {h:AS Blk},lkB h id=.map k v es->lkB (xZ h as) id=.map k v es
 |[],_,b=>b
 |a::as,_,b=>Qp as (YU b)
def agh {t:TypeId} {k:Ty} (b:Ez P t k=true) {x y:Val k} (e:jN k x y=true):x=y:=by
 rcases lH b with⟨_,rfl⟩|⟨j,_,rfl⟩
 ·simpa[jN] using e
 ·simpa[jN] using e
def RH {t:TypeId} {k:Ty} (b:Ez P t k=true) (x:Val k) (m:Nat):Instr.sameBits m (keyVal k x) (keyVal k x)=true:=by
 rcases lH b with⟨_,rfl⟩|⟨j,_,rfl⟩<;>simp[Instr.sameBits,keyVal]
def ò.set {α β:Type} {R:α->β->Prop}:∀{l:AS α} {m:AS β} (i:Nat) {a:α} {b:β},ò R l m->R a b->ò R (l.set i a) (m.set i b)
 |[],[],_,_,_,_,_=>trivial
 |_::_,_::_,0,_,_,h,c=>⟨c,h.2⟩
 |_::_,_::_,i+1,_,_,h,c=>⟨h.1,ò.set i h.2 c⟩
 |[],_::_,_,_,_,h,_=>h.elim
 |_::_,[],_,_,_,h,_=>h.elim
def Fu {t:TypeId} {m i x:AV} {um ui C:Value} (H:HR ν h w) (e:ţ P h t m i x some=some h') (hm:VR ν h w m um) (hi:VR ν h w i ui) (hx:VR ν h w x C) :
 ∃w',(Instr.mapUpdate t um ui C).run P w=.ok () w'/\HR ν h' w'/\Ev h.length ν h w ν h' w'/\h'.length=h.length:=by
 unfold ţ at e
 split at e<;>try (cases e; done)
 rename_i kt et ht
 split at e<;>try (cases e; done)
 rename_i id
 split at e<;>try (cases e; done)
 rename_i k v es hl
 split at e<;>try (cases e; done)
 rename_i hc;simp only[cM,beq_iff_eq] at hc;obtain⟨J,hnm,W⟩:=hc
 split at e<;>try (cases e; done)
 rename_i a cs ha hcs
 split at e<;>try (cases e; done)
 rename_i b hb;cases e;obtain⟨vs,u,rfl⟩:=DU hcs;obtain⟨hfe,hfm⟩:=adw u h;have hcx:=hx.cells u;have hsn:=C1 H (hcx.mono fun _ _ q=>q.1) (hfm hnm);obtain⟨e1,H1,hlv⟩:=As vs H;rw[hfe];have o:=Qp vs hl;have U:=Ĝ hb hsn
 have D:C=uC v C.cells.toList:=by
  unfold uC;rw[<-W]
  cases x with
  |agg l=>obtain⟨us,rfl,_⟩:=hx; rfl
  |any=>cases u
  |und=>cases u
  |tup=>cases u
  |_ =>
   rw[oY ((hx.one rfl rfl).oneCell u)]; rfl
 obtain⟨ho,k2,v2,es2,O,hmv⟩:=hm;rw[hl] at O; cases O;have hB:=H1.blk id;rw[o] at hB;obtain⟨K,f,s,h1,h2,h3,h4⟩:=hB;rw[hmv,h1];have hui:=DR J hi ha;subst hui
 have Z:Ents w (Av ν (xZ h vs)) k v es f.toList:=by
  obtain⟨r,E,A⟩:=ents H1 (m:=.omp id) (um:=.map (some K)) (k:=k) (v:=v) (es:=es) J ⟨rfl,k,v,es,o,h1.symm⟩ (by simp only[ñ,o]);cases E;rcases A with⟨A,_⟩|⟨b',en',cl',A,N,Y⟩
  ·cases A
  ·cases A;rw[h2] at N;cases N;exact Y
 obtain⟨d,hd,G⟩:=zG (P:=P) (t:=kt) (k:=k) J;have S:id<(xZ h vs).length:=Ņ o (by simp)
 -- the map with other f
 have fin:∀(c:Array MapEntry) (g:Nat) (p:AS (Val k×Val v)),Ents w (Av ν (xZ h vs)) k v p c.toList ->
  HR ν (ì (xZ h vs) id (.map k v p)) {w with heap:=w.heap.setIfInBounds K (.map c g)} /\
  Ev (xZ h vs).length ν (xZ h vs) w ν (ì (xZ h vs) id (.map k v p)) {w with heap:=w.heap.setIfInBounds K (.map c g)}:=by
  intro c g p X;have I:=à h2
  have z:∀q,q<w.heap.size->((lkB (xZ h vs) id).live=true->¬ę (ν id) q)->({w with heap:=w.heap.setIfInBounds K (.map c g)}:World).heap[q]?=w.heap[q]?:=fun q _ M=>by
   have:K≠q:=fun he=>M (by rw[o]; rfl) (by rw[h1,he]; rfl);simp[eN,this]
  have hV:(Blk.map k v p).live=true->∀q,ę (ν id) q->((lkB (xZ h vs) id).live=true/\ę (ν id) q)\/w.heap.size<=q:=fun _ q M=>.inl ⟨by rw[o]; rfl,M⟩;have ev:=Ev.upd H1 (B:=.map k v p) (V:=ν id) (w':={w with heap:=w.heap.setIfInBounds K (.map c g)}) S rfl rfl rfl (by simp) z hV (by rw[o]; exact⟨⟨p,rfl⟩,Í _ _ _⟩)
  have L:=HR.upd H1 S ev z hV ⟨K,c,g,(Í _ _ _).trans h1,by simp[I],by simpa using X.length.symm,fun j q hj=>by
   obtain⟨m,E,A,us,N,Y⟩:=X.get hj;refine⟨m,us,by simpa using E,?_,CR.keep ev.keepA N,Y⟩
   rw[A]; exact adl J⟩
  rw[i5] at ev L;exact⟨L,ev⟩
 have T:∀em,(Instr.checkKey em 10000 kt (keyVal k a)).run P w=.ok () w:=fun em=>Fh (P:=P) (w:=w) (x:=a) (empty:=em) J 9999;rcases EI (G a) es f.toList 0 Z with⟨h5,h6⟩|⟨y,j,us,h5,h6,h7,h8,h9,e',h10,h11⟩
 ·rw[SS h5]
  obtain⟨L,ev⟩:=fin (f.push {key:=keyVal k a,val:=C,born:=s}) (s+1) (es++[(a,b)]) (by
   rw[Array.toList_push]
   exact ò.append Z ⟨⟨rfl,_,U,D⟩,trivial⟩)
  refine⟨_,?_,L,e1.trans ev (by rw[ŵ]; exact cJ _),by rw[Ï,ŵ]⟩;simp only[Instr.mapUpdate,Sem.run_bind,run_underlying ht,Result.andThen_ok,i6 h2,T];simp[Instr.findKey,run_underlying hd,h6,setObj,Sem.run,h2]
 ·rw[h9];obtain⟨m,E,A,us',N,Y⟩:=Z.get h10
  have q1':f[j]?=some m:=by simpa using E
  obtain⟨L,ev⟩:=fin (f.modify j fun e=>{e with key:=keyVal k a,val:=C}) s (es.set j (a,b)) (by
   rw[Array.toList_modify]
   have:(f.toList.modify j fun e=>{e with key:=keyVal k a,val:=C})=f.toList.set j {m with key:=keyVal k a,val:=C}:=by
    apply List.ext_getElem?
    intro q;rw[List.getElem?_modify,f7]
    by_cases M:j=q
    ·subst M;have I:=(cO.1 E).1;simp only[if_true,E,I];rfl
    ·simp[M]
   rw[this]
   exact ò.set j Z ⟨rfl,_,U,D⟩)
  refine⟨_,?_,L,e1.trans ev (by rw[ŵ]; exact cJ _),by rw[Ï,ŵ]⟩
  have R:m.key=keyVal k a:=by rw[A,<-agh J h11]
  simp only[Instr.mapUpdate,Sem.run_bind,run_underlying ht,Result.andThen_ok,i6 h2,T];simp only[dt] at h6;have hsb:Instr.sameBits 10000 (keyVal k a) (keyVal k a)=true:=RH J a 10000;simp[Instr.findKey,run_underlying hd,h6,q1',R,Instr.keyThatStays,hsb,setObj,Sem.run,h2]
end
end Go.Am
end

noncomputable section
namespace Go.Am
variable [ë] [Ð]
section
variable {ν ν':Nat->Value} {h h':AS Blk} {w w':World} {P:Program}
def XM {t:TypeId} {n o:Nat} {d:TypeDesc} (hd:P.underlying t=some d) (g:szP P t=some n) (us:Array Value) (j:Lv d=false->n=1) (k:o+n<=us.size) :
 (part t us o).run P w=.ok (Vr (Lv d) ((us.toList.drop o).take n)) w:=by
 unfold part;simp only[Sem.run_bind,uV hd,Result.andThen_ok]
 cases e:Lv d with
 |true =>
  simp only[if_true,Sem.run_bind,lg g,Result.andThen_ok,Sem.run_pure,Vr];congr 2;apply eX;rw[Array.toList_extract,List.extract_eq_take_drop];congr 1; omega
 |false =>
  have i:=j e;subst i
  have b:o<us.size:=by omega
  have c:us[o]?=some us[o]:=by simp[b]
  have f:us.toList.drop o=us[o]::us.toList.drop (o+1):=by
   rw[eY (by simpa using b)]; simp
  simp[c,Vr,f]
def aiI:∀(n d:Nat) (t:TypeId) (cs N:AS AV) (rest:AN Bool) (r:Bool),n<=d->aiJ P n t cs N rest=some r ->
 ∃e g,rest=some g/\r=(e&&g)/\∃D,P.underlying t=some D/\(Lv D=false->cs.length=1)/\∀us c,ò (VRc ν h w) cs us->ò (VRc ν h w) N c->(Op.equalIn d t (Vr (Lv D) us) (Vr (Lv D) c)).run P w=.ok e w:=by
 intro n
 induction n with
 |zero=>intro d t cs N rest r _ e; cases e
 |succ n ih =>
  intro d t cs N rest r hnd e;obtain⟨d,rfl⟩:∃d',d=d'+1:=⟨d-1,by omega⟩;unfold aiJ at e
  split at e<;>try (cases e; done)
  ·rename_i C
   split at e<;>try (cases e; done)
   rename_i a b
   split at e<;>try (cases e; done)
   rename_i g;cases e;refine⟨_,g,rfl,rfl,_,C,fun _=>rfl,fun us c B h2=>?_⟩;obtain⟨u,rfl,L⟩:=B.one;obtain⟨v,rfl,K⟩:=h2.one;have p:u=.bool a:=L.1;have o:v=.bool b:=K.1;subst p o;exact run_equalIn_bool' w d t a b C
  ·rename_i i C
   split at e<;>try (cases e; done)
   rename_i k a k' b
   split at e<;>try (cases e; done)
   rename_i hk _;subst hk
   split at e<;>try (cases e; done)
   rename_i g;cases e;refine⟨_,g,rfl,rfl,_,C,fun _=>rfl,fun us c B h2=>?_⟩;obtain⟨u,rfl,L⟩:=B.one;obtain⟨v,rfl,K⟩:=h2.one;have p:u=.int k a:=L.1;have o:v=.int k b:=K.1;subst p o;have:=run_equalIn_int w d t k i a b C
   rw[show(a==b)=decide (a=b) from by by_cases hab:a=b<;>simp[hab]] at this
   exact this
  ·rename_i fs C
   split at e<;>try (cases e; done)
   rename_i hst
   have O:∀(l:AS Field) (r:Bool),eqFs P (aiJ P n) cs N l rest=some r->∃e g,rest=some g/\r=(e&&g)/\∀us c:Array Value,ò (VRc ν h w) cs us.toList->ò (VRc ν h w) N c.toList->(Op.eqFields d us c l).run P w=.ok e w:=by
    intro l
    induction l with
    |nil=>intro r e; exact⟨true,r,e,by simp,fun us c _ _=>rfl⟩
    |cons f l H =>
     intro r e;unfold eqFs at e
     split at e
     ·rename_i S;obtain⟨e',g,B,h2,J⟩:=H r e;refine⟨e',g,B,h2,fun us c A s=>?_⟩
      have : ¬ (f.name ≠ "_") := by simpa using S
      simp only[Op.eqFields,if_neg this];exact J us c A s
     ·rename_i S
      split at e<;>try (cases e; done)
      rename_i m I
      split at e<;>try (cases e; done)
      rename_i x y hx hy;obtain⟨p,r1,B,h2,D,Z,T,J⟩:=ih d f.type x y _ r (by omega) e;obtain⟨o,r2,h4,h5,h6⟩:=H r1 B;refine⟨p&&o,r2,h4,by rw[h2,h5,Bool.and_assoc],fun us c A s=>?_⟩;obtain⟨L,K⟩:=mB hx;obtain⟨g3,g4⟩:=mB hy
      have hnn : f.name ≠ "_" := by simpa using S
      have W:∀{l:AS AV} {us:Array Value} {z:AS AV},ò (VRc ν h w) l us.toList->z=(l.drop f.offset).take m->z.length=m->f.offset+m<=us.size\/m=0:=fun {l us z} q p o=>by
       have:=q.length;rw[p] at o;simp at o this;omega
      have E:Lv D=false->m=1:=fun j=>by rw[<-K]; exact T j
      have Y:∀{l:AS AV} {us:Array Value} {z:AS AV},ò (VRc ν h w) l us.toList->z=(l.drop f.offset).take m->z.length=m->(part f.type us f.offset).run P w=.ok (Vr (Lv D) ((us.toList.drop f.offset).take m)) w:=fun {l us z} q p o=>by
       rcases W q p o with j|j
       ·exact XM Z I us E j
       ·subst j
        have G:Lv D=true:=by cases hq:Lv D with
         |true=>rfl
         |false=>exact absurd (E hq) (by simp)
        unfold part;simp only[Sem.run_bind,uV Z,Result.andThen_ok,G,if_true,lg I,Sem.run_pure,Vr];congr 2;apply Array.ext';simp
      have p1:=Y A L K;have p2:=Y s g3 g4;have V:=J ((us.toList.drop f.offset).take m) ((c.toList.drop f.offset).take m) (by rw[L]; exact(A.drop _).take _) (by rw[g3]; exact(s.drop _).take _);have U:=h6 us c A s;simp only[Op.eqFields,if_pos hnn,Sem.run_bind,p1,p2,Result.andThen_ok,V]
      cases p with
      |true=>simp[U]
      |false=>simp
   obtain⟨e',g,B,h2,J⟩:=O _ r e;refine⟨e',g,B,h2,_,C,fun j=>by simp[Lv] at j,fun us c A s=>?_⟩
   have j:P.fieldsOf t=fs:=by simp[Program.fieldsOf,C]
   show(Op.equalIn (d+1) t (.agg us.toArray) (.agg c.toArray)).run P w=_;rw[run_equalIn_struct w d t _ _ (by rw[j]; exact C) hst,j];exact J us.toArray c.toArray (by simpa using A) (by simpa using s)
  ·rename_i len X C
   split at e<;>try (cases e; done)
   rename_i m I
   have O:∀(l:AS Nat) (r:Bool),eqIs P (aiJ P n) X m cs N l rest=some r->∃e g,rest=some g/\r=(e&&g)/\∀us c:Array Value,ò (VRc ν h w) cs us.toList->ò (VRc ν h w) N c.toList->(Op.eqItems d X m us c l).run P w=.ok e w:=by
    intro l
    induction l with
    |nil=>intro r e; exact⟨true,r,e,by simp,fun us c _ _=>rfl⟩
    |cons i l H =>
     intro r e;unfold eqIs at e
     split at e<;>try (cases e; done)
     rename_i x y hx hy;obtain⟨p,r1,B,h2,D,Z,T,J⟩:=ih d X x y _ r (by omega) e;obtain⟨o,r2,h4,h5,h6⟩:=H r1 B;refine⟨p&&o,r2,h4,by rw[h2,h5,Bool.and_assoc],fun us c A s=>?_⟩;obtain⟨L,K⟩:=mB hx;obtain⟨g3,g4⟩:=mB hy
     have W:∀{l:AS AV} {us:Array Value} {z:AS AV},ò (VRc ν h w) l us.toList->z=(l.drop (i*m)).take m->z.length=m->(i*m)+m<=us.size\/m=0:=fun {l us z} q p o=>by
      have:=q.length;rw[p] at o;simp at o this;omega
     have E:Lv D=false->m=1:=fun j=>by rw[<-K]; exact T j
     have Y:∀{l:AS AV} {us:Array Value} {z:AS AV},ò (VRc ν h w) l us.toList->z=(l.drop (i*m)).take m->z.length=m->(part X us (i*m)).run P w=.ok (Vr (Lv D) ((us.toList.drop (i*m)).take m)) w:=fun {l us z} q p o=>by
      rcases W q p o with j|j
      ·exact XM Z I us E j
      ·subst j
       have G:Lv D=true:=by cases hq:Lv D with
        |true=>rfl
        |false=>exact absurd (E hq) (by simp)
       unfold part;simp only[Sem.run_bind,uV Z,Result.andThen_ok,G,if_true,lg I,Sem.run_pure,Vr];congr 2;apply Array.ext';simp
     have p1:=Y A L K;have p2:=Y s g3 g4;have V:=J ((us.toList.drop (i*m)).take m) ((c.toList.drop (i*m)).take m) (by rw[L]; exact(A.drop _).take _) (by rw[g3]; exact(s.drop _).take _);have U:=h6 us c A s;simp only[Op.eqItems,Sem.run_bind,p1,p2,Result.andThen_ok,V]
     cases p with
     |true=>simp[U]
     |false=>simp
   obtain⟨e',g,B,h2,J⟩:=O _ r e;refine⟨e',g,B,h2,_,C,fun j=>by simp[Lv] at j,fun us c A s=>?_⟩
   obtain⟨R,M,hsz⟩:∃R,P.info? X=some R/\R.size=m:=by
    unfold szP at I
    split at I
    ·cases I; exact⟨_,‹_›,rfl⟩
    ·cases I
   have hco:P.cellsOf X=m:=by simp[Program.cellsOf,M,hsz]
   show(Op.equalIn (d+1) t (.agg us.toArray) (.agg c.toArray)).run P w=_;rw[run_equalIn_array w d us.toArray c.toArray C M,hco];exact J us.toArray c.toArray (by simpa using A) (by simpa using s)
def ag9 {op:BinOp} {t:TypeId} {x y v:AV} {i g:Value} (X Y:Operand) (H:HR ν h w) (e:ai3 P op t x y some=some v) (A:VR ν h w x i) (z:VR ν h w y g) :
 Ķ P ν h w (do eqGuard op t X Y i g; binOp op t i g) v h:=by
 unfold ai3 at e
 split at e
 ·rename_i k a B b;have f:i=.int k a:=A;have h2:g=.int B b:=z;subst f h2
  split at e
  ·rename_i l C
   have c:(eqGuard op t X Y (.int k a) (.int B b)).run P w=.ok () w:=by cases op<;>simp[eqGuard]
   unfold shK at e
   split at e<;>try (cases e; done)
   rename_i hb
   have hb:¬b<0:=by have:=of_decide_eq_true hb; omega
   split at e
   ·cases e;refine Ķ.still H (u:=.int k (shlI k a b)) ?_ rfl;rw[Sem.run_bind,c,Result.andThen_ok]
    cases op<;>simp only[WD,Option.some.injEq,reduceCtorEq] at C
    simp[binOp,Op.shift,hb,shlI]
   ·cases e;refine Ķ.still H (u:=.int k (shrI k a b)) ?_ rfl;rw[Sem.run_bind,c,Result.andThen_ok]
    cases op<;>simp only[WD,Option.some.injEq,reduceCtorEq] at C
    simp[binOp,Op.shift,hb,shrI]
  rename_i J
  split at e<;>try (cases e; done)
  rename_i L _;subst L
  have c:(eqGuard op t X Y (.int k a) (.int k b)).run P w=.ok () w:=by cases op<;>simp[eqGuard]
  split at e
  ·rename_i r d;cases e;refine Ķ.still H (u:=.bool r) ?_ rfl;rw[Sem.run_bind,c,Result.andThen_ok]
   cases op<;>simp only[cmpI,reduceCtorEq,Option.some.injEq] at d<;>subst d<;>simp[binOp,Op.intCmp]
  ·split at e
   ·rename_i r d;rw[Q2 e];refine Ķ.still H (u:=.int k (k.wrap r)) ?_ rfl;rw[Sem.run_bind,c,Result.andThen_ok]
    cases op<;>simp only[arI,reduceCtorEq,Option.some.injEq] at d<;>subst d<;>simp[binOp,Op.intArith]
   ·split at e<;>try (cases e; done)
    ·split at e<;>try (cases e; done)
     rename_i hb
     have hb:¬b=0:=by simpa using hb
     rw[Q2 e];refine Ķ.still H (u:=.int k (k.wrap (a.tdiv b))) ?_ rfl;rw[Sem.run_bind,c,Result.andThen_ok];simp[binOp,Op.intDiv,hb]
    ·split at e<;>try (cases e; done)
     rename_i hb
     have hb:¬b=0:=by simpa using hb
     cases e;refine Ķ.still H (u:=.int k (a.tmod b)) ?_ rfl;rw[Sem.run_bind,c,Result.andThen_ok];simp[binOp,Op.intDiv,hb]
    ·cases e;refine Ķ.still H (u:=.int k (andI k a b)) ?_ rfl;rw[Sem.run_bind,c,Result.andThen_ok];simp[binOp,Op.intBits,andI,ahU]
    ·cases e;refine Ķ.still H (u:=.int k (orI k a b)) ?_ rfl;rw[Sem.run_bind,c,Result.andThen_ok];simp[binOp,Op.intBits,orI,ahU]
    ·cases e;refine Ķ.still H (u:=.int k (xorI k a b)) ?_ rfl;rw[Sem.run_bind,c,Result.andThen_ok];simp[binOp,Op.intBits,xorI,ahU]
    ·cases e;refine Ķ.still H (u:=.int k (Xo k a b)) ?_ rfl;rw[Sem.run_bind,c,Result.andThen_ok];simp[binOp,Op.intBits,Xo,ahU]
 ·rename_i a b;have f:i=.bool a:=A;have h2:g=.bool b:=z;subst f h2
  split at e<;>try (cases e; done)
  rename_i I
  have c:(eqGuard op t X Y (.bool a) (.bool b)).run P w=.ok () w:=by cases op<;>simp[eqGuard]
  have E:(Op.equalIn 10000 t (.bool a) (.bool b)).run P w=.ok (a==b) w:=run_equalIn_bool' w 9999 t a b I
  split at e<;>try (cases e; done)
  ·cases e;refine Ķ.still H (u:=.bool (a==b)) ?_ rfl;rw[Sem.run_bind,c,Result.andThen_ok];simp[binOp,Op.equal,Op.maxDepth,E]
  ·cases e;refine Ķ.still H (u:=.bool (!(a==b))) ?_ rfl;rw[Sem.run_bind,c,Result.andThen_ok];simp[binOp,Op.equal,Op.maxDepth,E]
 ·rename_i a b;have f:i=.string a:=A;have h2:g=.string b:=z;subst f h2
  have c:(eqGuard op t X Y (.string a) (.string b)).run P w=.ok () w:=by cases op<;>simp[eqGuard]
  split at e<;>try (cases e; done)
  ·cases e;refine Ķ.still H (u:=.bool (a.toList==b.toList)) ?_ rfl;rw[Sem.run_bind,c,Result.andThen_ok];simp[binOp,Op.stringOp]
  ·cases e;refine Ķ.still H (u:=.bool (!(a.toList==b.toList))) ?_ rfl;rw[Sem.run_bind,c,Result.andThen_ok];simp[binOp,Op.stringOp]
  ·split at e<;>try (cases e; done)
   rename_i m;cases e;have m:=of_decide_eq_true m;refine Ķ.still H (u:=.string (a++b)) ?_ rfl
   have K:¬(((a.size+b.size:Nat):Int)>IntKind.i64.max):=by
    have:IntKind.i64.max=9223372036854775807:=by decide
    omega
   rw[Sem.run_bind,c,Result.andThen_ok];show(Op.stringOp .add a b).run P w=_;unfold Op.stringOp;dsimp only;rw[if_neg K];rfl
 ·rename_i cs S;obtain⟨us,rfl,f⟩:=A;obtain⟨s,rfl,h2⟩:=z
  split at e<;>try (cases e; done)
  rename_i j
  split at e<;>try (cases e; done)
  rename_i o
  split at e<;>try (cases e; done)
  rename_i r d;obtain⟨U,T,R,G,D,N,M,O⟩:=aiI (ν:=ν) (h:=h) (w:=w) 8 10000 t cs S _ r (by omega) d;cases R;rw[Bool.and_true] at G;subst G;have q:=O us.toList s.toList f h2
  have p:Lv D=true:=by rw[N] at j; cases D<;>first|rfl|(simp[aggT] at j; done)
  rw[p] at q
  have q:(Op.equalIn 10000 t (.agg us) (.agg s)).run P w=.ok r w:=by simpa[Vr] using q
  split at e<;>try (cases e; done)
  ·cases e;refine Ķ.still H (u:=.bool r) ?_ rfl;rw[Sem.run_bind,run_eqGuard_agg w _ t X Y us s o,Result.andThen_ok,run_eql_struct,q]; rfl
  ·cases e;refine Ķ.still H (u:=.bool (!r)) ?_ rfl;rw[Sem.run_bind,run_eqGuard_agg w _ t X Y us s o,Result.andThen_ok,run_neq_struct,q]; rfl
 ·cases e
def ifc_ok {op:BinOp} {t:TypeId} {x v:AV} {c:Value} (X:Operand) (H:HR ν h w) (e:aiz P op t x some=some v) (l:VR ν h w x c) :
 Ķ P ν h w (do eqGuard op t X (.const .nilIface) c .nilIface; binOp op t c .nilIface) v h:=by
 unfold aiz at e
 split at e<;>try (cases e; done)
 rename_i ms j
 split at e<;>try (cases e; done)
 rename_i a;obtain⟨o,h0,m⟩:=l
 have f:∀b:Bool,a=b->(Op.equal t c .nilIface).run P w=.ok (!b) w/\(eqGuard op t X (.const .nilIface) c .nilIface).run P w=.ok () w:=by
  intro b hb
  cases b with
  |false =>
   rw[h0 hb];refine⟨?_,?_⟩
   ·show(Op.equalIn (9999+1) t .nilIface .nilIface).run P w=_;generalize 9999=n;rw[Op.equalIn,Sem.run_bind,run_underlying j]; rfl
   ·cases op<;>first|rfl|(cases X<;>rfl)
  |true =>
   obtain⟨k,u,rfl⟩:=m hb;refine⟨?_,?_⟩
   ·show(Op.equalIn (9999+1) t (.iface k u) .nilIface).run P w=_;generalize 9999=n;rw[Op.equalIn,Sem.run_bind,run_underlying j]; rfl
   ·cases op<;>rfl
 obtain⟨i,g⟩:=f a rfl
 have d:∀op:BinOp,(op=.eql->binOp op t c .nilIface=(do pure (.bool (<-Op.equal t c .nilIface))))/\(op=.neq->binOp op t c .nilIface=(do pure (.bool !(<-Op.equal t c .nilIface)))):=fun op=>by
  constructor
  ·rintro rfl; cases c<;>rfl
  ·rintro rfl; cases c<;>rfl
 split at e<;>try (cases e; done)
 ·cases e;refine Ķ.still H (u:=.bool (!a)) ?_ rfl;rw[Sem.run_bind,g,Result.andThen_ok,(d _).1 rfl,Sem.run_bind,i];rfl
 ·cases e;refine Ķ.still H (u:=.bool a) ?_ rfl;rw[Sem.run_bind,g,Result.andThen_ok,(d _).2 rfl,Sem.run_bind,i];simp
def abH {op:UnOp} {x v:AV} {c:Value} (H:HR ν h w) (d:VR ν h w x c)
 (e:(match op,x with|.not,.bool b=>some (AV.bool (!b))|.neg,.int k n=>arK k (0-n) some|_,_=>none)=some v):Ķ P ν h w (Op.unary op c) v h:=by
 split at e<;>try (cases e; done)
 ·cases e;rename_i b d;have:c=.bool b:=d;subst this;exact Ķ.still H rfl rfl
 ·rename_i k n d;have:c=.int k n:=d;subst this;rw[Q2 e];exact Ķ.still H (u:=.int k (k.wrap (0-n))) rfl rfl
end
end Go.Am
end

noncomputable section
namespace Go.Am
variable [ë] [Ð]
section
variable {ν ν':Nat->Value} {h h':AS Blk} {w w':World} {P:Program}
def M7 (b:AV):∀(as:AS AV) (h:AS Blk),ñ (xZ h as) b=ñ h b
 |[],_=>rfl
 |a::as,h=>by rw[xZ,M7 b as,DW]
def yb.mono {av av':Nat->Prop} (d:∀b,av' b->av b) {t:Ty} {xs:AS (Val t)} {news:AS Value} (c:yb w av t xs news):yb w av' t xs news :=
 ⟨c.1,fun i x hi=>CR.mono d (c.2 i x hi)⟩
def Kq {a:AV} {id:Nat} {h:AS Blk} (b:lkB h id=.dead):lkB (o9 h a) id=.dead:=by
 have c:∀(j g:Nat) (t:Ty) (fz:Bool) (xs:AS (Val t)),lkB h j=.row t g fz xs->lkB (ì h j (.row t g true xs)) id=.dead:=fun j g t fz xs d=>by
  by_cases e:id=j
  ·subst e; rw[b] at d; cases d
  ·rw[Ó _ e]; exact b
 cases a<;>try exact b
 all_goals
  simp only[o9]
  split
  ·exact c _ _ _ _ _ ‹_›
  ·exact b
def Kl {id:Nat}:∀(as:AS AV) {h:AS Blk},lkB h id=.dead->lkB (xZ h as) id=.dead
 |[],_,b=>b
 |_::as,_,b=>Kl as (Kq b)
def YR {v:AV} {id:Nat} {h:AS Blk} (b:lkB h id=.dead):lkB (frz h v) id=.dead:=by
 unfold frz; split
 ·exact Kl _ b
 ·exact Kq b
def Km {id:Nat}:∀(ps:AS (Nat×AV)) {h:AS Blk},lkB h id=.dead->lkB (frzA h ps) id=.dead
 |[],_,b=>b
 |(_,_)::ps,_,b=>Km ps (YR b)
def XP {h0:AS Blk} {ty:Ty}:∀(ps:AS (Nat×AV)) (us:AS (Nat×Value)) (k:Nat) (c:Array Value) (xs:AS (Val ty)) (h:AS Blk),(∀b,ñ h b=ñ h0 b)->HR ν h w->HL h0 ty k ps=some xs ->
 ò (fun(a:Nat×AV) (b:Nat×Value)=>a.1=b.1/\VR ν h w a.2 b.2) ps us->(k+ps.length)*ty.size<=c.size ->
 ∃c' news,Instr.fill (fun i=>some (i*ty.size,ty.size)) c us=some c'/\c'.toList=c.toList.take (k*ty.size)++news++c.toList.drop ((k+ps.length)*ty.size)/\yb w (Av ν (frzA h ps)) ty xs news/\xs.length=ps.length /\
  Ev h.length ν h w ν (frzA h ps) w/\HR ν (frzA h ps) w/\(∀b,Av ν (frzA h ps) b->Av ν h b)/\(frzA h ps).length=h.length
 |[],[],k,c,xs,h,g,H,e,_,_=>by
  cases e;exact⟨c,[],rfl,by simp,⟨by simp,fun i x hi=>by simp at hi⟩,rfl,Ev.refl _ _ _ _,H,fun _ hb=>hb,rfl⟩
 |[],_::_,_,_,_,_,_,_,_,d,_=>d.elim
 |_::_,[],_,_,_,_,_,_,_,d,_=>d.elim
 |(i,v)::ps,(j,u)::us,k,c,xs,h,g,H,e,d,T=>by
  obtain⟨⟨B,p⟩,d⟩:=d;simp only at B p; subst B;simp only[HL] at e
  split at e<;>try (cases e; done)
  rename_i A;simp only[cM,beq_iff_eq] at A;obtain⟨rfl,G⟩:=A
  split at e<;>try (cases e; done)
  rename_i cs M
  split at e<;>try (cases e; done)
  rename_i x S
  split at e<;>try (cases e; done)
  rename_i xs' D;cases e;obtain⟨vs,r,rfl⟩:=DU M;obtain⟨K,J⟩:=adw r h;have L:=p.cells r;have N:=C1 H (L.mono fun _ _ q=>q.1) (J G);have t:vs.map (ñ h)=vs.map (ñ h0):=fp fun b _=>g b;rw[t] at N;have o:=Ĝ S N;obtain⟨R,H1,I⟩:=As vs H;simp only[frzA,K]
  have f:u.cells.size=ty.size:=by have:=o.length; simpa using this
  have z:(i+1+ps.length)*ty.size<=c.size:=by rw[show i+1+ps.length=i+(ps.length+1) by omega]; simpa using T
  have hi:i*ty.size+ty.size<=c.size:=by
   have:=dl ty.size (show i+1<=i+1+ps.length by omega);rw[dz i 1,fu] at this;omega
  have m:u.cells.toList.length=ty.size:=by simpa using f
  have C:(c.toList.take (i*ty.size)++u.cells.toList++c.toList.drop (i*ty.size+ty.size)).toArray.size=c.size:=by
   simp only[eT,cN,di,gP,ft,m]; omega
  obtain⟨c',news,Z,h2,Y,X,W,V,O,U⟩:=XP ps us (i+1) (c.toList.take (i*ty.size)++u.cells.toList++c.toList.drop (i*ty.size+ty.size)).toArray xs' (xZ h vs)
   (fun b=>(M7 b vs h).trans (g b)) H1 D (d.mono fun _ _ q=>⟨q.1,q.2.ev R⟩) (by rw[C]; exact z)
  refine⟨c',u.cells.toList++news,?_,?_,?_,by simp[X],R.trans W (by rw[ŵ]; exact cJ _),V,fun b hb=>I b (O b hb),by rw[U,ŵ]⟩
  ·rw[wu rfl f hi]; exact Z
  ·rw[h2]
   have a1:(c.toList.take (i*ty.size)++u.cells.toList++c.toList.drop (i*ty.size+ty.size)).take ((i+1)*ty.size)=c.toList.take (i*ty.size)++u.cells.toList:=by
    have l:(c.toList.take (i*ty.size)++u.cells.toList).length=(i+1)*ty.size:=by
     rw[cN,di,ft,m,dz,fu]; omega
    rw[<-l,List.take_left]
   have a2:(c.toList.take (i*ty.size)++u.cells.toList++c.toList.drop (i*ty.size+ty.size)).drop ((i+1+ps.length)*ty.size)=c.toList.drop ((i+(ps.length+1))*ty.size):=by
    have l:(c.toList.take (i*ty.size)++u.cells.toList).length=i*ty.size+ty.size:=by
     rw[cN,di,ft,m]; omega
    rw[show(i+1+ps.length)*ty.size=(c.toList.take (i*ty.size)++u.cells.toList).length+ps.length*ty.size by rw[l,dz,dz,fu],<-gh,List.drop_left,gh];congr 1;rw[dz,dz,fu]; omega
   show(List.take ((i+1)*ty.size) _++news++List.drop ((i+1+ps.length)*ty.size) _)=_;rw[a1,a2];simp
  ·have s:yb w (Av ν (frzA (xZ h vs) ps)) ty [x] u.cells.toList:=⟨by simp[f],fun q y E=>by
    cases q with
    |zero =>
     simp at E; subst E;simp only[Nat.zero_mul,List.drop_zero];rw[ej (by omega)];exact CR.mono O o
    |succ q=>simp at E⟩
   exact s.append Y
def QT {S:St} {a:Act} {nid n:Nat} {t e:TypeId} {ty:Ty} {ps:Array (Nat×Operand)} {xs:AS (Val ty)} (H:Sim ν S a w) (s:nid<S.h.length) (hd:lkB S.h nid=.dead) (J:Ay P t=some e)
 (d:AQ P e ty.size=true) (f:ps.toList.length=n) (u:n*ty.size<=65536) (D:HL S.h ty 0 (ps.toList.map fun p=>(p.1,ev S.t p.2))=some xs) :
 Ķ P ν S.h w (Instr.buildSlice t n (ps.map fun(i,x)=>(i,a.eval x))) (.own nid 0) (ì (frzA S.h (ps.toList.map fun p=>(p.1,ev S.t p.2))) nid (.row ty 0 false xs)):=by
 obtain⟨i,z,hi,l,r,K,C,B⟩:=jT d;have E:=jh J
 have o:((Array.range (n*ty.size)).map (fun j=>(if n*ty.size=0 then(#[]:Array Value) else z.cells)[j % (if n*ty.size=0 then(#[]:Array Value) else z.cells).size]!)).size=n*ty.size:=by simp
 obtain⟨c',news,N,h2,A,q,M,L,O,k⟩:=XP (ν:=ν) (w:=w) (h0:=S.h) _ (ps.toList.map fun p=>(p.1,a.eval p.2)) 0 ((Array.range (n*ty.size)).map (fun j=>(if n*ty.size=0 then(#[]:Array Value) else z.cells)[j % (if n*ty.size=0 then(#[]:Array Value) else z.cells).size]!)) xs S.h (fun _=>rfl) H.heap D (AY H ps.toList)
  (by rw[o]; simp only[dS]; rw[f,dt]; exact cJ _)
 rw[dS,f] at h2 q
 have g:c'.toList=news:=by
  rw[h2];simp
 have m:lkB (frzA S.h (ps.toList.map fun p=>(p.1,ev S.t p.2))) nid=.dead:=Km _ hd
 have b:=row_new (w':=w.alloc (.cells c' e)) L (id:=nid) (g':=0) (xs':=xs) (cap':=n) (by rw[k]; exact s) (fun V=>by rw[m]; trivial) rfl rfl rfl rfl (by omega) (by
  have:c'.size=news.length:=by rw[<-g]; simp
  rw[this,A.1,q]; exact cJ _) A (fun j v y=>by rw[<-g] at y; simpa using y)
 rw[q] at b;refine⟨_,_,_,?_,vl (by rw[k]; exact s) rfl,b.2,(M.trans b.1 (by rw[k]; exact cJ _)),by rw[Ï,k]⟩
 have G:(ps.map fun(x:Nat×Operand)=>(x.1,a.eval x.2)).toList=ps.toList.map fun p=>(p.1,a.eval p.2):=by simp
 have I:¬(16777216<n*ty.size):=by omega
 have c:Instr.fill (fun i=>some (i*ty.size,ty.size)) ((Array.range (n*ty.size)).map (fun j=>(if n*ty.size=0 then(#[]:Array Value) else z.cells)[j % (if n*ty.size=0 then(#[]:Array Value) else z.cells).size]!)) (ps.map fun(x:Nat×Operand)=>(x.1,a.eval x.2)).toList=some c':=by rw[G]; exact N
 simp only[Instr.buildSlice,Sem.run_bind,run_underlying E,Result.andThen_ok,sizeOf,typeInfo,run_program,hi,Sem.run_pure,l];rw[show(2:Nat) ^ 24=16777216 from rfl,if_neg (by omega:¬n*ty.size>16777216)]
 by_cases h0:n*ty.size=0
 ·simp only[h0,if_true,Sem.run_bind,Sem.run_pure,Result.andThen_ok] at c ⊢
  erw [c]
  simp[newRow]
 ·simp only[h0,if_false,Sem.run_bind,zeroValue,typeInfo,run_program,hi,C,Sem.run_pure,Result.andThen_ok] at c ⊢
  erw [c]
  simp[newRow]
end
end Go.Am
end

noncomputable section
namespace Go.Am
variable [ë] [Ð]
section
variable {ν ν':Nat->Value} {h h':AS Blk} {w w':World} {P:Program}
def upd2 (H:HR ν h w) {i j:Nat} {A B:Blk} {U V:Value} (L:i≠j) (hi:i<h.length) (hj:j<h.length) (X:w'.os=w.os) (C:w'.tape=w.tape) (K:w'.output=w.output)
 (o:w.heap.size<=w'.heap.size)
 (u:∀b,b<w.heap.size->((lkB h i).live=true->¬ę (ν i) b)->((lkB h j).live=true->¬ę (ν j) b)->w'.heap[b]?=w.heap[b]?)
 (hU:A.live=true->∀b,ę U b->((lkB h i).live=true/\ę (ν i) b)\/((lkB h j).live=true/\ę (ν j) b)\/w.heap.size<=b)
 (hV:B.live=true->∀b,ę V b->((lkB h i).live=true/\ę (ν i) b)\/((lkB h j).live=true/\ę (ν j) b)\/w.heap.size<=b)
 (z:A.live=true->B.live=true->∀b,ę U b->ę V b->False)
 (Z:(lkB h i).next ν (í (í ν i U) j V) i A) (Y:(lkB h j).next ν (í (í ν i U) j V) j B)
 (hbi:Ev h.length ν h w (í (í ν i U) j V) (ì (ì h i A) j B) w'->BR (í (í ν i U) j V) (ì (ì h i A) j B) w' i A)
 (hbj:Ev h.length ν h w (í (í ν i U) j V) (ì (ì h i A) j B) w'->BR (í (í ν i U) j V) (ì (ì h i A) j B) w' j B) :
 Ev h.length ν h w (í (í ν i U) j V) (ì (ì h i A) j B) w'/\HR (í (í ν i U) j V) (ì (ì h i A) j B) w':=by
 have J:lkB (ì (ì h i A) j B) i=A:=by rw[Ó _ L,Ü _ hi]
 have I:lkB (ì (ì h i A) j B) j=B:=Ü _ (by rw[Ï]; exact hj)
 have lo:∀{m},m≠i->m≠j->lkB (ì (ì h i A) j B) m=lkB h m:=fun c h2=>by rw[Ó _ h2,Ó _ c]
 have T:í (í ν i U) j V i=U:=by rw[ý _ _ L,Í]
 have S:í (í ν i U) j V j=V:=Í _ _ _
 have y:∀{m},m≠i->m≠j->í (í ν i U) j V m=ν m:=fun c h2=>by rw[ý _ _ h2,ý _ _ c]
 -- who owns a block now owned it, or it is new
 have own:∀m b,(lkB (ì (ì h i A) j B) m).live=true->ę (í (í ν i U) j V m) b ->
  (∃q,(lkB h q).live=true/\ę (ν q) b/\(q=m\/((q=i\/q=j)/\(m=i\/m=j))))\/(w.heap.size<=b/\(m=i\/m=j)):=by
  intro m b f hb
  by_cases c:m=i
  ·subst c;rw[J] at f; rw[T] at hb;rcases hU f b hb with h2|h2|h2
   ·exact .inl ⟨m,h2.1,h2.2,.inl rfl⟩
   ·exact .inl ⟨j,h2.1,h2.2,.inr ⟨.inr rfl,.inl rfl⟩⟩
   ·exact .inr ⟨h2,.inl rfl⟩
  ·by_cases h2:m=j
   ·subst h2;rw[I] at f; rw[S] at hb;rcases hV f b hb with h2|h2|h2
    ·exact .inl ⟨i,h2.1,h2.2,.inr ⟨.inl rfl,.inr rfl⟩⟩
    ·exact .inl ⟨m,h2.1,h2.2,.inl rfl⟩
    ·exact .inr ⟨h2,.inr rfl⟩
   ·rw[lo c h2] at f; rw[y c h2] at hb;exact .inl ⟨m,f,hb,.inl rfl⟩
 have ev:Ev h.length ν h w (í (í ν i U) j V) (ì (ì h i A) j B) w':=by
  refine⟨X,C,K,o,fun b hb l=>⟨u b hb (fun f M=>l ⟨i,f,M⟩) (fun f M=>l ⟨j,f,M⟩),?_⟩,fun m p=>?_⟩
  ·rintro⟨m,f,M⟩;rcases own m b f M with⟨q,c,h2,_⟩|⟨c,_⟩
   ·exact l ⟨q,c,h2⟩
   ·omega
  ·by_cases c:m=i
   ·subst c; rw[J]; exact Z
   ·by_cases h2:m=j
    ·subst h2; rw[I]; exact Y
    ·rw[lo c h2]
     cases hB:lkB h m with
     |dead=>trivial
     |cells cs=>exact⟨⟨cs,rfl⟩,y c h2⟩
     |row t g fz xs=>exact⟨g,fz,xs,rfl,cJ _,fun _=>⟨y c h2,rfl⟩⟩
     |map k v es=>exact⟨⟨es,rfl⟩,y c h2⟩
     |deep k g xss=>exact⟨g,xss,rfl,cJ _,fun _=>⟨y c h2,rfl⟩⟩
     |acc t xs=>exact⟨xs,rfl⟩
     |fns es=>exact⟨⟨es,rfl⟩,y c h2⟩
     |iter s q=>exact⟨⟨q,rfl⟩,y c h2⟩
 refine⟨ev,fun m=>?_,fun m n b p l e d=>?_,fun b hb=>df (H.ghlt b hb) o,fun m b f hb hg=>?_,H.globE ev,H.globLE ev⟩
 ·by_cases c:m=i
  ·subst c; rw[J]; exact hbi ev
  ·by_cases h2:m=j
   ·subst h2; rw[I]; exact hbj ev
   ·rw[lo c h2];refine BR.ev ev (H.nd ev) (H.gl ev) (y c h2) (fun b f hb hlt=>u b hlt (fun D E=>c (H.inj m i b f D hb E)) (fun D E=>h2 (H.inj m j b f D hb E))) (H.blk m)
 ·-- one owner alone
  have hd:∀{m n b},(m=i\/m=j)->(n=i\/n=j)->(lkB (ì (ì h i A) j B) m).live=true->(lkB (ì (ì h i A) j B) n).live=true->ę (í (í ν i U) j V m) b->ę (í (í ν i U) j V n) b->m=n:=by
   intro m n b c h2 p l e d
   rcases c with rfl|rfl<;>rcases h2 with rfl|rfl
   ·rfl
   ·rw[J] at p; rw[I] at l; rw[T] at e; rw[S] at d;exact(z p l b e d).elim
   ·rw[I] at p; rw[J] at l; rw[S] at e; rw[T] at d;exact(z l p b d e).elim
   ·rfl
  rcases own m b p e with⟨q,c,h2,R⟩|⟨c,R⟩
  ·rcases own n b l d with⟨r,N,h5,x⟩|⟨N,x⟩
   ·have W:=H.inj q r b c N h2 h5;subst W;rcases R with rfl|⟨R,O⟩
    ·rcases x with rfl|⟨x,G⟩
     ·rfl
     ·exact hd x G p l e d
    ·rcases x with rfl|⟨x,G⟩
     ·exact hd O R p l e d
     ·exact hd O G p l e d
   ·have:=H.lt ⟨q,c,h2⟩; omega
  ·rcases own n b l d with⟨r,N,h5,x⟩|⟨N,x⟩
   ·have:=H.lt ⟨r,N,h5⟩; omega
   ·exact hd R x p l e d
 ·rcases own m b f hb with⟨q,c,h2,_⟩|⟨c,_⟩
  ·exact H.ghne q b c h2 hg
  ·have:=H.ghlt b hg; omega
def oC {l:AS Value} {b:Nat}:ę (.agg l.toArray) b↔∃u∈l,jz u=some b:=by
 show(∃u∈l.toArray.toList,jz u=some b)↔_;simp
def afL {k:IntKind} {xss:AS (AS Int)} {us:AS Value} (h:ò (Xq w k) xss us):∀u∈us,u.oneCell'=true:=by
 intro u b;obtain⟨i,hi,rfl⟩:=dh.1 b;obtain⟨xs,_,base,cap,e,_⟩:=h.get' (cI hi);rw[e]; rfl
def abZ {k:IntKind} {xss:AS (AS Int)} {us:AS Value} (h:ò (Xq w k) xss us):∀u∈us,∀b,jz u=some b->b<w.heap.size:=by
 intro u f b hb;obtain⟨i,hi,rfl⟩:=dh.1 f;obtain⟨xs,_,base,cap,e,_,d⟩:=h.get' (cI hi);rw[e] at hb;rcases d with⟨rfl,_⟩|⟨j,off,c,g,rfl,d,_⟩
 ·cases hb
 ·cases hb; exact à d
def agB (H:HR ν h w) {nid id g n:Nat} {t e:TypeId} {k:IntKind} {xs:AS Int} {i:TypeInfo} {z:Value} (r:nid<h.length) (hd:lkB h nid=.dead) (ht:P.underlying t=some (.slice e)) (hi:P.info? e=some i) (K:i.size=1) (hz:i.zero=some z) (hzs:z.cells.size=1)
 (s:lkB h id=.row (.int k) g false xs) (hn:n=1) {R:Value} (J:R=ν id) :
 Ķ P ν h w (Instr.buildSlice t n #[(0,R)]) (.dp nid 0) (ì (ì h id (.row (.int k) (g+1) false [])) nid (.deep k 0 [xs])):=by
 subst hn
 have D:id≠nid:=fun e=>by rw[e,hd] at s; cases s
 have L:id<h.length:=Ņ s (by simp);have X:=H.blk id;rw[s] at X;obtain⟨base,cap,G,h2,p⟩:=X
 have l:(lkB h id).live=true:=by rw[s]; rfl
 have N:(base=none/\cap=0)\/∃b off c e,base=some ⟨b,off,none⟩/\w.heap[b]?=some (.cells c e (0,0))/\off+cap<=c.size/\∀(j:Nat) (x:Int),xs[j]?=some x->c[off+j]?=some (.int k x):=by
  rcases p with p|⟨b,off,c,O,p,E,M,h6⟩
  ·exact .inl p
  ·refine .inr ⟨b,off,c,O,p,E,by simpa[Ty.size] using M,fun j x hx=>?_⟩;obtain⟨us,Z,Y⟩:=h6 j x hx;have I:us=[.int k x]:=Z;subst I;have:=Y 0 _ rfl;simp only[World.cell?,E] at this;simpa[Ty.size] using this
 have q:(ν id).oneCell'=true:=by rw[G]; rfl
 have d:(w.alloc (.cells #[ν id] e)).heap=w.heap.push (.cells #[ν id] e (0,0)):=rfl
 have f:∀b,b<w.heap.size->(w.alloc (.cells #[ν id] e)).heap[b]?=w.heap[b]?:=fun b hb=>by rw[d,eG]; simp[fG hb]
 obtain⟨ev,hr⟩:=upd2 (w':=w.alloc (.cells #[ν id] e)) (A:=.row (.int k) (g+1) false []) (B:=.deep k 0 [xs]) (U:=.slice none 0 0) (V:=.agg [Value.slice (some ⟨w.heap.size,0,none⟩) 1 1,ν id].toArray) H D L r rfl rfl rfl (by rw[d]; simp)
  (fun b hb _ _=>f b hb) (fun _ b hb=>by cases hb)
  (fun _ b hb=>by
   obtain⟨u,T,hb⟩:=oC.1 hb;simp only[cW,ff,or_false] at T;rcases T with rfl|rfl
   ·cases hb; exact .inr (.inr (cJ _))
   ·exact .inl ⟨l,by rw[G] at hb ⊢; exact hb⟩)
  (fun _ _ b hb _=>by cases hb)
  (by rw[s]; exact⟨g+1,false,[],rfl,f5 _,fun hf=>by omega⟩) (by rw[hd]; trivial)
  (fun ev=>⟨none,0,by rw[ý _ _ D,Í]; rfl,cJ _,.inl ⟨rfl,rfl⟩⟩)
  (fun ev=>by
   have C:(w.alloc (.cells #[ν id] e)).heap[w.heap.size]?=some (.cells #[ν id] e (0,0)):=by rw[d]; simp
   refine⟨some ⟨w.heap.size,0,none⟩,1,[ν id],by rw[Í]; rfl,by simp,?_,.inr ⟨w.heap.size,0,#[ν id],e,rfl,C,by simp,fun m u W=>?_⟩,⟨base,cap,G,h2,?_⟩,trivial⟩
   ·refine List.Pairwise.cons (fun v S b hb y=>?_) (fY _ _);simp at S;subst S
    obtain rfl:w.heap.size=b:=by simpa[jz] using hb
    have:=H.lt ⟨id,l,by rw[G] at y ⊢; exact y⟩;omega
   ·cases m with
    |zero=>simpa using W
    |succ m=>simp at W
   ·rcases N with p|⟨b,off,c,O,p,E,M⟩
    ·exact .inl p
    ·exact .inr ⟨b,off,c,O,p,by
      rw[f b (à E),E],M⟩)
 refine⟨_,w.alloc (.cells #[ν id] e),.slice (some ⟨w.heap.size,0,none⟩) 1 1,?_,⟨rfl,k,0,[xs],?_,cJ _,fun _=>⟨[ν id],Í _ _ _⟩⟩,hr,ev,by rw[Ï,Ï]⟩
 ·subst J;simp only[Instr.buildSlice,Sem.run_bind,run_underlying ht,Result.andThen_ok,sizeOf,typeInfo,run_program,hi,Sem.run_pure,K];rw[show(2:Nat) ^ 24=16777216 from rfl,if_neg (by omega:¬1*1>16777216)];simp only[fS,Nat.one_ne_zero,if_false,Sem.run_bind,zeroValue,typeInfo,run_program,hi,hz,Sem.run_pure,Result.andThen_ok]
  have o:Instr.fill (fun i=>some (i*1,1)) ((Array.range 1).map (fun j=>z.cells[j % z.cells.size]!)) [(0,ν id)]=some #[ν id]:=by
   have:=wu (place:=fun i=>some (i*1,1)) (cells:=(Array.range 1).map (fun j=>z.cells[j % z.cells.size]!)) (i:=0) (v:=ν id) (rest:=[]) (off:=0) (size:=1) rfl (by have:=oY q; simpa using congrArg List.length this) (by simp);rw[this];have hc:=oY q;simp[Instr.fill,hc]
  simp only[fS] at o
  erw [o]
  simp[newRow]
 ·exact Ü _ (by rw[Ï]; exact r)
def Rt (H:HR ν h w) {G:Nat->Prop} {id g:Nat} {k:IntKind} {xss:AS (AS Int)} (N:lkB h id=.deep k g xss) {v:Value} (K:∃us,ν id=.agg (v::us).toArray) (O:∀b,ę (ν id) b->¬G b) :
 CR w G (.slice (.slice (.int k))) xss [v]:=by
 obtain⟨us,s⟩:=K;obtain⟨base,cap,D,A,h2,_,V,U⟩:=H.table N;have z:=A;rw[s] at A;have q:=kQ A
 injection q with I E
 subst I E;have own:∀u∈Value.slice base xss.length cap::us,∀b,jz u=some b->¬G b:=fun u r b hb=>O b (by rw[z]; exact⟨u,by simpa using r,hb⟩);refine⟨base,cap,rfl,h2,?_⟩;rcases V with⟨rfl,rfl⟩|⟨b,off,c,e,rfl,B,X,T⟩
 ·exact .inl (dg.1 (by omega))
 ·refine .inr ⟨b,off,rfl,own _ (.head _) b rfl,à B,fun i xs J=>?_⟩;obtain⟨u,r,L⟩:=U.get J;refine⟨[u],?_,fun j y d=>?_⟩
  ·obtain⟨f,p,rfl,S,R⟩:=L;refine⟨f,p,rfl,S,?_⟩;rcases R with⟨rfl,rfl⟩|⟨C,l,Z,Y,rfl,o,W,t⟩
   ·exact .inl (dg.1 (by omega))
   ·refine .inr ⟨C,l,rfl,own _ (.tail _ (cQ r)) C rfl,à o,fun m x M=>⟨[.int k x],rfl,fun j y d=>?_⟩⟩
    cases j with
    |zero =>
     simp at d;subst d;simp only[World.cell?,o];have:=t m x M;simpa[Ty.size] using this
    |succ j=>simp at d
  ·cases j with
   |zero =>
    simp at d;subst d;simp only[World.cell?,B];have:=T i _ r;simpa[Ty.size] using this
   |succ j=>simp at d
def agA (H:HR ν h w) {nid id g n:Nat} {t e:TypeId} {k:IntKind} {xss:AS (AS Int)} {i:TypeInfo} {z:Value} (D:nid<h.length) (hd:lkB h nid=.dead) (ht:P.underlying t=some (.slice e)) (hi:P.info? e=some i) (O:i.size=1) (hz:i.zero=some z) (hzs:z.cells.size=1)
 (I:lkB h id=.deep k g xss) (R:n=1) {d:Value} (s:∃us,ν id=.agg (d::us).toArray) :
 Ķ P ν h w (Instr.buildSlice t n #[(0,d)]) (.own nid 0) (ì (ì h id (.deep k (g+1) [])) nid (.row (.slice (.slice (.int k))) 0 false [xss])):=by
 subst R;have K:=s;obtain⟨us,s⟩:=s
 have L:id≠nid:=fun e=>by rw[e,hd] at I; cases I
 have S:id<h.length:=Ņ I (by simp)
 have f:(lkB h id).live=true:=by rw[I]; rfl
 have C:d.oneCell'=true:=by
  obtain⟨base,cap,Y,X,_⟩:=H.table I;rw[s] at X;have q:=kQ X
  injection q with Z q2
  rw[Z]; rfl
 have l:(w.alloc (.cells #[d] e)).heap=w.heap.push (.cells #[d] e (0,0)):=rfl
 have p:∀b,b<w.heap.size->(w.alloc (.cells #[d] e)).heap[b]?=w.heap[b]?:=fun b hb=>by rw[l,eG]; simp[fG hb]
 have E:(w.alloc (.cells #[d] e)).heap[w.heap.size]?=some (.cells #[d] e (0,0)):=by rw[l]; simp
 obtain⟨ν',o⟩:∃ν',ν'=í (í ν id (.agg [Value.slice none 0 0].toArray)) nid (.slice (some ⟨w.heap.size,0,none⟩) 1 1):=⟨_,rfl⟩;obtain⟨h',M⟩:∃h',h'=ì (ì h id (.deep k (g+1) [])) nid (.row (.slice (.slice (.int k))) 0 false [xss]):=⟨_,rfl⟩
 have J:∀b,ę (ν id) b->¬Av ν' h' b:=by
  intro b hb;rintro(⟨m,G,c⟩|hg)
  ·by_cases W:m=nid
   ·subst W;rw[o,Í] at c;obtain rfl:w.heap.size=b:=Option.some.inj c;have:=H.lt ⟨id,f,hb⟩;omega
   ·rw[o,ý _ _ W] at c;rw[M,Ó _ W] at G
    by_cases N:m=id
    ·subst N;rw[Í] at c;obtain⟨u,y,c⟩:=oC.1 c;simp at y;subst y;cases c
    ·rw[ý _ _ N] at c;rw[Ó _ N] at G;exact N (H.inj m id b G f c hb)
  ·exact H.ghG id b f hb hg
 have T:CR (w.alloc (.cells #[d] e)) (Av ν' h') (.slice (.slice (.int k))) xss [d]:=CR.keep (fun b hb R=>⟨p b hb,R⟩) (Rt H I K J)
 obtain⟨ev,hr⟩:=upd2 (w':=w.alloc (.cells #[d] e)) (A:=.deep k (g+1) []) (B:=.row (.slice (.slice (.int k))) 0 false [xss]) (U:=.agg [Value.slice none 0 0].toArray) (V:=.slice (some ⟨w.heap.size,0,none⟩) 1 1) H L S D rfl rfl rfl (by rw[l]; simp)
  (fun b hb _ _=>p b hb)
  (fun _ b hb=>by
   obtain⟨u,y,hb⟩:=oC.1 hb;simp at y;subst y
   cases hb)
  (fun _ b hb=>by
   obtain rfl:w.heap.size=b:=Option.some.inj hb
   exact .inr (.inr (cJ _)))
  (fun _ _ b hb _=>by
   obtain⟨u,y,hb⟩:=oC.1 hb;simp at y;subst y
   cases hb)
  (by rw[I]; exact⟨g+1,[],rfl,f5 _,fun hf=>by omega⟩) (by rw[hd]; trivial)
  (fun ev=>⟨none,0,[],by rw[ý _ _ L,Í]; rfl,cJ _,fY _ _,.inl ⟨rfl,rfl⟩,trivial⟩)
  (fun ev=>by
   rw[<-o,<-M];refine⟨some ⟨w.heap.size,0,none⟩,1,by rw[o,Í]; rfl,by simp,.inr ⟨w.heap.size,0,#[d],e,rfl,E,by simp[Ty.size],fun m x G=>?_⟩⟩
   cases m with
   |zero =>
    simp at G;subst G;refine⟨[d],T,?_⟩;have:=Ď.of_cells E;simpa using this
   |succ m=>simp at G)
 refine⟨_,w.alloc (.cells #[d] e),.slice (some ⟨w.heap.size,0,none⟩) 1 1,?_,⟨rfl,.slice (.slice (.int k)),0,false,[xss],?_,cJ _,fun _=>(Í _ _ _).symm⟩,hr,ev,by rw[Ï,Ï]⟩
 ·simp only[Instr.buildSlice,Sem.run_bind,run_underlying ht,Result.andThen_ok,sizeOf,typeInfo,run_program,hi,Sem.run_pure,O];rw[show(2:Nat) ^ 24=16777216 from rfl,if_neg (by omega:¬1*1>16777216)];simp only[fS,Nat.one_ne_zero,if_false,Sem.run_bind,zeroValue,typeInfo,run_program,hi,hz,Sem.run_pure,Result.andThen_ok]
  have r:Instr.fill (fun i=>some (i*1,1)) ((Array.range 1).map (fun j=>z.cells[j % z.cells.size]!)) [(0,d)]=some #[d]:=by
   have:=wu (place:=fun i=>some (i*1,1)) (cells:=(Array.range 1).map (fun j=>z.cells[j % z.cells.size]!)) (i:=0) (v:=d) (rest:=[]) (off:=0) (size:=1) rfl (by have:=oY C; simpa using congrArg List.length this) (by simp);rw[this];have hc:=oY C;simp[Instr.fill,hc]
  simp only[fS] at r
  erw [r]
  simp[newRow]
 ·exact Ü _ (by rw[Ï]; exact D)
def Vw {k:IntKind} {base:AN Addr} {cap:Nat} {xss:AS (AS Int)} {us:AS Value} (l:ò (Xq w k) xss us)
 (d:(base=none/\cap=0)\/∃b off c e,base=some ⟨b,off,none⟩/\w.heap[b]?=some (.cells c e (0,0))/\off+cap<=c.size/\∀(i:Nat) (u:Value),us[i]?=some u->c[off+i]?=some u) (o:xss.length<=cap) :
 (∀a,base=some a->∀j u,us[j]?=some u->w.cell? (a.add j)=some u)/\(base=none->us=[]):=by
 constructor
 ·intro a ha j u m;rcases d with⟨d,_⟩|⟨b,off,c,e,d,g,_,f⟩
  ·rw[d] at ha; cases ha
  ·rw[d] at ha; cases ha;rw[Ę];simp only[World.cell?,g];exact f j u m
 ·intro hb;rcases d with⟨_,d⟩|⟨b,off,c,e,d,_⟩
  ·have:=l.length;exact dg.1 (by omega)
  ·rw[hb] at d; cases d
def QF (H:HR ν h w) {j f:Nat} (y:f≠j) (hj:j<h.length) {k:IntKind} {U g':Nat} {xss g:AS (AS Int)} (z:lkB h f=.deep k U g) {L:AN Addr} {T:Nat} {us i:AS Value} (B:ν f=.agg (Value.slice L g.length T::i).toArray)
 (J:∀W,(lkB h j).next ν W j (.deep k g' (xss++g)))
 (p:ò (Xq w k) xss us) (D:∀u∈us,∀b,jz u=some b->(lkB h j).live=true/\ę (ν j) b) (hap:Vq us)
 {base':AN Addr} {cap':Nat} {w':World} (O:xss.length+g.length<=cap') (Y:w'.os=w.os) (E:w'.tape=w.tape) (M:w'.output=w.output) (G:w.heap.size<=w'.heap.size)
 (s:∀b,jz (.slice base' (xss.length+g.length) cap')=some b->((lkB h j).live=true/\ę (ν j) b/\∀u∈us,jz u≠some b)\/w.heap.size<=b)
 (r:∀b,b<w.heap.size->jz (.slice base' (xss.length+g.length) cap')≠some b->w'.heap[b]?=w.heap[b]?)
 (A:(base'=none/\cap'=0)\/∃b off c e,base'=some ⟨b,off,none⟩/\w'.heap[b]?=some (.cells c e (0,0))/\off+cap'<=c.size/\∀(m:Nat) (u:Value),(us++i)[m]?=some u->c[off+m]?=some u) :
 Ev h.length ν h w (í (í ν f (.agg [Value.slice none 0 0].toArray)) j (.agg (Value.slice base' (xss.length+g.length) cap'::(us++i)).toArray)) (ì (ì h f (.deep k (U+1) [])) j (.deep k g' (xss++g))) w' /\
  HR (í (í ν f (.agg [Value.slice none 0 0].toArray)) j (.agg (Value.slice base' (xss.length+g.length) cap'::(us++i)).toArray)) (ì (ì h f (.deep k (U+1) [])) j (.deep k g' (xss++g))) w':=by
 have N:f<h.length:=Ņ z (by simp);obtain⟨V,cap2',us2',q1,q2,q3,q4,q5⟩:=H.table z;rw[B] at q1;have q:=kQ q1
 injection q with e1 e2
 subst e2
 have l:(lkB h f).live=true:=by rw[z]; rfl
 have o:∀u∈i,∀b,jz u=some b->ę (ν f) b:=fun u d b hb=>by rw[B]; exact oC.2 ⟨u,by simp[d],hb⟩
 have R:Vq i:=q3.sublist (List.sublist_cons_self _ _)
 have K:∀u∈us,∀v∈i,∀b,jz u=some b->jz v≠some b:=fun u d v t b hb X =>
  y (H.inj f j b l (D u d b hb).1 (o v t b X) (D u d b hb).2)
 have S:∀u∈us++i,∀b,jz (.slice base' (xss.length+g.length) cap')=some b->jz u≠some b:=fun u d b hb x=>by
  rcases s b hb with⟨h1,h2,C⟩|h1
  ·rcases cR.1 d with d|d
   ·exact C u d x
   ·exact y (H.inj f j b l h1 (o u d b x) h2)
  ·rcases cR.1 d with d|d
   ·have:=abZ p u d b x; omega
   ·have:=abZ q5 u d b x; omega
 have I:∀u∈us++i,∀b,jz u=some b->b<w.heap.size->w'.heap[b]?=w.heap[b]?:=fun u d b hb Z=>r b Z fun t=>S u d b t hb;refine upd2 H y N hj Y E M G (fun b hb h1 h2=>r b hb fun t=>?_) (fun _ b hb=>?_) (fun _ b hb=>?_) (fun _ _ b hb _=>?_) ?_ (J _) (fun ev=>?_) (fun ev=>?_)
 ·rcases s b t with⟨C,h4,_⟩|C
  ·exact h2 C h4
  ·omega
 ·obtain⟨u,d,hb⟩:=oC.1 hb;simp at d;subst d;cases hb
 ·obtain⟨u,d,hb⟩:=oC.1 hb;rcases cW.1 d with rfl|d
  ·rcases s b hb with⟨C,h4,_⟩|C
   ·exact .inr (.inl ⟨C,h4⟩)
   ·exact .inr (.inr C)
  ·rcases cR.1 d with d|d
   ·exact .inr (.inl (D u d b hb))
   ·exact .inl ⟨l,o u d b hb⟩
 ·obtain⟨u,d,hb⟩:=oC.1 hb;simp at d;subst d;cases hb
 ·rw[z]; exact⟨U+1,[],rfl,f5 _,fun hf=>by omega⟩
 ·exact⟨none,0,[],by rw[ý _ _ y,Í]; rfl,cJ _,fY _ _,.inl ⟨rfl,rfl⟩,trivial⟩
 ·refine⟨base',cap',us++i,by rw[Í,cN],by rw[cN]; exact O,?_,A,?_⟩
  ·rw[cN];exact List.Pairwise.cons (fun v t b hb=>S v t b hb) (List.pairwise_append.2 ⟨hap,R,fun u d v t b hb=>K u d v t b hb⟩)
  ·exact(p.append q5).keepRows I
def Zr {n b:Nat} (c:n<=4294967296) (h2:b<=32768):n*b<=140737488355328:=by
 have:=gg c h2;omega
def UQ (H:HR ν h w) (t ty:TypeId) {e:TypeId} {i:TypeInfo} {z:Value} (ht:P.underlying t=some (.slice e)) (hi:P.info? e=some i) (hz:i.zero=some z) (C:i.size=1) (hby:i.bytes<=32768) (hzs:z.cells.size=1)
 {j r:Nat} (S:r≠j) (hj:j<h.length) {k:IntKind} {g2 g':Nat} {xss d:AS (AS Int)} (K:lkB h r=.deep k g2 d) {base p:AN Addr} {cap s:Nat} {us f:AS Value} (B:ν r=.agg (Value.slice p d.length s::f).toArray)
 (x:∀W,(lkB h j).next ν W j (.deep k g' (xss++d)))
 (hx:(base=none/\cap=0/\xss=[]/\us=[])\/∃g,lkB h j=.deep k g xss/\ν j=.agg (Value.slice base xss.length cap::us).toArray)
 (I:xss.length+d.length<=4294967296) :
 ∃V w',(Builtin.append_ #[t,t] ty #[.slice base xss.length cap,.slice p d.length s]).run P w=.ok V w'/\V.oneCell'=true /\
  Ev h.length ν h w (í (í ν r (.agg [Value.slice none 0 0].toArray)) j (.agg (V::(us++f)).toArray)) (ì (ì h r (.deep k (g2+1) [])) j (.deep k g' (xss++d))) w' /\
  HR (í (í ν r (.agg [Value.slice none 0 0].toArray)) j (.agg (V::(us++f)).toArray)) (ì (ì h r (.deep k (g2+1) [])) j (.deep k g' (xss++d))) w':=by
 obtain⟨base2',cap2',us2',q1,q2,q3,q4,q5⟩:=H.table K;rw[B] at q1;have q:=kQ q1
 injection q with U e2
 injection U with U e3 e4
 subst U e2 e4;obtain⟨c2,n2⟩:=Vw q5 q4 q2;have l2:=q5.length;have R:=afL q5
 -- the table that grows
 have hX:ò (Xq w k) xss us/\(∀u∈us,∀b,jz u=some b->(lkB h j).live=true/\ę (ν j) b)/\Vq us /\
  ((base=none/\cap=0/\us=[]/\xss=[])\/∃b off c e,base=some ⟨b,off,none⟩/\w.heap[b]?=some (.cells c e (0,0))/\off+cap<=c.size/\xss.length<=cap/\(∀(i:Nat) (u:Value),us[i]?=some u->c[off+i]?=some u)/\((lkB h j).live=true/\ę (ν j) b/\∀u∈us,jz u≠some b)):=by
  rcases hx with⟨rfl,rfl,rfl,rfl⟩|⟨g,hl,N⟩
  ·exact⟨trivial,fun u Y=>(by cases Y),List.Pairwise.nil,.inl ⟨rfl,rfl,rfl,rfl⟩⟩
  ·obtain⟨b',c',us',p1,p2,p3,p4,p5⟩:=H.table hl;rw[N] at p1;have q:=kQ p1
   injection q with U e2
   injection U with U e3 e4
   subst U e2 e4
   have G:(lkB h j).live=true:=by rw[hl]; rfl
   refine⟨p5,fun u Y b hb=>⟨G,by rw[N]; exact oC.2 ⟨u,by simp[Y],hb⟩⟩,p3.sublist (List.sublist_cons_self _ _),?_⟩;rcases p4 with⟨rfl,rfl⟩|⟨b,off,c,e',rfl,X,p7,p8⟩
   ·have h0:xss=[]:=dg.1 (by omega);subst h0;exact .inl ⟨rfl,rfl,dg.1 p5.length.symm,rfl⟩
   ·exact .inr ⟨b,off,c,e',rfl,X,p7,p2,p8,G,by rw[N]; exact oC.2 ⟨_,.head _,rfl⟩,fun u Y hub=>(dE.1 p3).1 u Y b rfl hub⟩
 obtain⟨x1,x2,x3,x4⟩:=hX;have l1:=x1.length
 have hU2:d≠[]->∃a,p=some a:=fun L=>by
  cases hb:p with
  |none=>exact absurd (dg.1 (by rw[l2,n2 hb]; rfl)) L
  |some a=>exact⟨a,rfl⟩
 -- a new array
 have M:∀E:Nat,∃V w',(Result.ok (Value.slice (some ⟨w.heap.size,0,none⟩) (xss.length+d.length) (grownCap w (xss.length+d.length) E e))
  (w.drew.alloc (.cells (us.toArray++f.toArray++Builtin.zeroCells z.cells (grownCap w (xss.length+d.length) E e-(xss.length+d.length))) e)):Result Value)=.ok V w'/\V.oneCell'=true /\
  Ev h.length ν h w (í (í ν r (.agg [Value.slice none 0 0].toArray)) j (.agg (V::(us++f)).toArray)) (ì (ì h r (.deep k (g2+1) [])) j (.deep k g' (xss++d))) w' /\
  HR (í (í ν r (.agg [Value.slice none 0 0].toArray)) j (.agg (V::(us++f)).toArray)) (ì (ì h r (.deep k (g2+1) [])) j (.deep k g' (xss++d))) w':=by
  intro E;have hge:=grownCap_ge w (xss.length+d.length) E e;obtain⟨q,hq⟩:∃q,q=grownCap w (xss.length+d.length) E e:=⟨_,rfl⟩;rw[<-hq] at hge ⊢;obtain⟨cs,A⟩:∃cs,cs=us.toArray++f.toArray++Builtin.zeroCells z.cells (q-(xss.length+d.length)):=⟨_,rfl⟩
  have O:cs.size=q:=by
   rw[A];simp only[gM,eT,size_zeroCells,hzs];omega
  have J:∀(m:Nat) (u:Value),(us++f)[m]?=some u->cs[m]?=some u:=fun m u D=>by
   rw[<-eD] at D;rw[A,eZ,if_pos]
   ·simpa using D
   ·have:=(ee.1 D).1;simpa using this
  rw[<-A];have y:(w.drew.alloc (.cells cs e)).heap=w.heap.push (.cells cs e (0,0)):=rfl
  have T:(w.drew.alloc (.cells cs e)).heap[w.heap.size]?=some (.cells cs e (0,0)):=by rw[y]; exact Array.getElem?_push_size
  exact⟨_,_,rfl,rfl,QF (w':=w.drew.alloc (.cells cs e)) H S hj K B x x1 x2 x3 (base':=some ⟨w.heap.size,0,none⟩) (cap':=q) hge rfl rfl rfl (by rw[y]; simp)
   (fun b hb=>.inr (by cases hb; exact cJ _)) (fun b hb _=>by rw[y,eG]; simp[fG hb]) (.inr ⟨w.heap.size,0,cs,e,rfl,T,by omega,fun m u D=>by rw[dt]; exact J m u D⟩)⟩
 rcases x4 with⟨rfl,rfl,rfl,rfl⟩|⟨b,off,c,e',rfl,X,p7,p8,p9,p10⟩
 ·by_cases L:d=[]
  ·subst L;have hu2:f=[]:=dg.1 l2.symm;subst hu2;have l:=oz (P:=P) (w:=w) t ty e i ht hi p s;exact⟨_,w,l,rfl,QF H S hj K B x x1 x2 x3 (base':=none) (cap':=0) (cJ _) rfl rfl rfl (cJ _) (fun b hb=>by cases hb) (fun b _ _=>rfl) (.inl ⟨rfl,rfl⟩)⟩
  ·have h0:0<d.length:=fX.2 L;obtain⟨a,rfl⟩:=hU2 L;rw[dm,dt] at I;have hb48:=Zr I hby;have l:=run_append_nil (P:=P) w t ty e i z ht hi hz a d.length s f (by rw[C]; omega) (c2 a rfl) h0 (by omega) (by omega);obtain⟨V,w',h1,h2,h3⟩:=M 0;refine⟨V,w',?_,h2,h3⟩;rw[<-h1];simpa using l
 ·by_cases v:xss.length+d.length<=cap
  ·have l:=mK (P:=P) (o:=off) (sLen:=xss.length) (sCap:=cap) t ty e i ht hi X p d.length s f (by rw[C]; omega) c2 n2 R v (by rw[C]; omega);rw[C,fS] at l;obtain⟨cs,A⟩:∃cs,cs=(c.toList.take (off+xss.length)++f++c.toList.drop (off+xss.length+f.length)).toArray:=⟨_,rfl⟩
   have O:cs.size=c.size:=by
    rw[A];simp only[eT,cN,di,gP,ft];omega
   have J:∀(m:Nat) (u:Value),(us++f)[m]?=some u->cs[off+m]?=some u:=fun m u D=>by
    have hs:=ob c.toList f (off+xss.length) (off+m) (by rw[show c.toList.length=c.size from ft]; omega);rw[A,eD,hs];rw[eP] at D
    split at D
    ·rw[if_pos (by omega)];simpa using p9 m u D
    ·have hml:=(cO.1 D).1;rw[if_neg (by omega),if_pos (by omega),show off+m-(off+xss.length)=m-us.length by omega];exact D
   rw[<-A] at l;have hh:(w.setRow b cs).heap[b]?=some (.cells cs e' (0,0)):=setRow_heap w b c _ e' _ X
   exact⟨_,_,l,rfl,QF (w':=w.setRow b cs) H S hj K B x x1 x2 x3 (base':=some ⟨b,off,none⟩) (cap':=cap) v rfl rfl rfl (by rw[sf]; exact cJ _)
    (fun b' hb=>.inl (by cases hb; exact p10)) (fun b' hb Z=>setRow_other w b b' _ fun he=>Z (by rw[he]; rfl)) (.inr ⟨b,off,cs,e',rfl,hh,by omega,J⟩)⟩
  ·have L:d≠[]:=fun e=>by rw[e,dm] at v; omega
   have h0:0<d.length:=fX.2 L;obtain⟨a,rfl⟩:=hU2 L;have l:=run_append_grow (P:=P) w t ty e i z ht hi hz ⟨b,off,none⟩ xss.length cap us (by rw[C]; omega) (fun m u D=>by rw[Ę]; simp only[World.cell?,X]; exact p9 m u D) a d.length s f (by rw[C]; omega) (c2 a rfl) (by omega) (by omega) (growslice_fits (by omega) (Zr I hby));obtain⟨V,w',h1,h2,h3⟩:=M cap;exact⟨V,w',l.trans h1,h2,h3⟩
def aiR {S:St} {a:Act} {nid n:Nat} {t:TypeId} {ps:Array (Nat×Operand)} {v:AV} (H:Sim ν S a w) (J:nid<S.h.length) (hd:lkB S.h nid=.dead)
 (e:UO P S.h nid n t (ps.toList.map fun p=>(p.1,ev S.t p.2)) (fun v h=>some (v,h))=some (v,h')):Ķ P ν S.h w (Instr.buildSlice t n (ps.map fun(i,x)=>(i,a.eval x))) v h':=by
 cases c:ps.toList with
 |nil=>rw[c] at e; cases e
 |cons p l =>
 cases l with
 |cons q l=>rw[c] at e; cases e
 |nil =>
 obtain⟨R,x⟩:=p;rw[c] at e;simp only[eM,fw,UO] at e;have B:=Ć H x
 cases s:ev S.t x<;>rw[s] at e<;>simp only at e<;>try (cases e; done)
 ·rename_i id g;rw[s] at B
  split at e<;>try (cases e; done)
  rename_i O u
  split at e<;>try (cases e; done)
  rename_i A
  split at e<;>try (cases e; done)
  rename_i k g' xs y
  split at e<;>try (cases e; done)
  rename_i r;cases e;simp only[cM] at A;obtain⟨b,h0,G⟩:=A;obtain rfl:=cZ h0;obtain rfl:=cZ G
  obtain rfl:g=g':=by simpa using r
  obtain⟨L,z,hi,m,_,E,C,f⟩:=jT b;have o:ps=#[(0,x)]:=dK.1 (by rw[c]);subst o;obtain⟨_,t2,M,N,K,d,_,j⟩:=B;rw[y] at d;cases d
  have D:((#[(0,x)]:Array (Nat×Operand)).map fun(i,x)=>(i,a.eval x))=#[(0,a.eval x)]:=by simp
  rw[D];exact agB H.heap J hd (jh u) hi m C f y rfl (j rfl)
 ·rename_i id g;rw[s] at B
  split at e<;>try (cases e; done)
  rename_i O u
  split at e<;>try (cases e; done)
  rename_i A
  split at e<;>try (cases e; done)
  rename_i k g' xss y
  split at e<;>try (cases e; done)
  rename_i r;cases e;simp only[cM] at A;obtain⟨b,h0,G⟩:=A;obtain rfl:=cZ h0;obtain rfl:=cZ G
  obtain rfl:g=g':=by simpa using r
  obtain⟨L,z,hi,m,_,E,C,f⟩:=jT b;have o:ps=#[(0,x)]:=dK.1 (by rw[c]);subst o;obtain⟨_,T,M,I,d,_,j⟩:=B;rw[y] at d;cases d
  have D:((#[(0,x)]:Array (Nat×Operand)).map fun(i,x)=>(i,a.eval x))=#[(0,a.eval x)]:=by simp
  rw[D];exact agA H.heap J hd (jh u) hi m C f y rfl (j rfl)
def aiS {nid:Nat} {t ty:TypeId} {s v:AV} {c R:Nat} {us Z:Value} (H:HR ν h w) (hn:nid<h.length) (hd:lkB h nid=.dead)
 (e:QG P h nid t s c R (fun v h=>some (v,h))=some (v,h')) (hs:VR ν h w s us) (hx:VR ν h w (.dp c R) Z):Ķ P ν h w (Builtin.append_ #[t,t] ty #[us,Z]) v h':=by
 unfold QG at e
 split at e<;>try (cases e; done)
 rename_i el K
 split at e<;>try (cases e; done)
 rename_i r
 split at e<;>try (cases e; done)
 rename_i k O l b
 split at e<;>try (cases e; done)
 rename_i J
 obtain rfl:R=O:=by simpa using J
 obtain⟨ti,z,hi,p,_,B,hz,o⟩:=jT r;have ht:=jh K;have hid2:c<h.length:=Ņ b (by simp);obtain⟨_,k2,g3,X,x,_,G⟩:=hx;rw[b] at x; cases x;obtain⟨us2,d⟩:=G rfl;obtain⟨U,cap2,us2',D,_⟩:=H.table b;have q1':=D;rw[d] at D;have q:=kQ D
 injection q with T S
 subst T S
 split at e
 ·-- nil
  split at e<;>try (cases e; done)
  rename_i f;cases e;have I:us=.slice none 0 0:=hs;subst I
  have m:c≠nid:=fun e=>by rw[e,hd] at b; cases b
  obtain⟨V,w',N,h2,M,L⟩:=UQ H t ty ht hi hz p B o m hn (g':=0) (xss:=[]) (us:=[]) b d (fun W=>by rw[hd]; trivial) (.inl ⟨rfl,rfl,rfl,rfl⟩) (by simp[Û] at f; simpa using f);refine⟨_,w',V,N,⟨h2,k,0,l,Ü _ (by rw[Ï]; exact hn),cJ _,fun _=>⟨_,Í _ _ _⟩⟩,L,M,by rw[Ï,Ï]⟩
 ·rename_i id g
  split at e<;>try (cases e; done)
  rename_i A
  split at e<;>try (cases e; done)
  rename_i k' g' xss y
  split at e<;>try (cases e; done)
  rename_i hg
  split at e<;>try (cases e; done)
  rename_i hk _;subst hk
  split at e<;>try (cases e; done)
  rename_i f
  obtain rfl:g=g':=by simpa using hg
  cases e
  have m:c≠id:=fun e=>by rw[e] at A; simp at A
  have j:id<h.length:=Ņ y (by simp);obtain⟨_,k3,g4,Y,u,_,E⟩:=hs;rw[y] at u; cases u;obtain⟨C,i⟩:=E rfl;obtain⟨base,cap,us1',p1,_⟩:=H.table y;rw[i] at p1;have q:=kQ p1
  injection q with T S
  subst T S;obtain⟨V,w',N,h2,M,L⟩:=UQ H t ty ht hi hz p B o m j (g':=g+1) (xss:=xss) (us:=C) b d (fun W=>by rw[y]; exact⟨g+1,xss++l,rfl,f5 _,fun hf=>by omega⟩) (.inr ⟨g,y,i⟩) (by simpa[Û] using f);refine⟨_,w',V,N,⟨h2,_,g+1,xss++l,Ü _ (by rw[Ï]; exact j),cJ _,fun _=>⟨_,Í _ _ _⟩⟩,L,M,by rw[Ï,Ï]⟩
 ·cases e
end
end Go.Am
end

noncomputable section
namespace Go.Am
variable {ρ:Type}
def AB (k:IntKind) (n:Int) (K:AV->AN ρ):arK k n K=(arK k n some).bind K:=rfl
def xN (P:Program) (op:BinOp) (t:TypeId) (x y:AV) (K:AV->AN ρ):ai3 P op t x y K=(ai3 P op t x y some).bind K:=by
 unfold ai3; (repeat' split)<;>first|rfl|exact AB _ _ _|(unfold shK; (repeat' split)<;>rfl)
def xg (d:AN TypeDesc) (h:AS Blk) (x:AV) (K:AV->AN ρ):afn d h x K=(afn d h x some).bind K:=by
 unfold afn; (repeat' split)<;>rfl
def oh (sz:Nat) (h:AS Blk) (x i:AV) (K:AV->AN ρ):zl sz h x i K=(zl sz h x i some).bind K:=by
 unfold zl; (repeat' split)<;>rfl
def oc (h:AS Blk) (x:AV) (o:Nat) (K:AV->AN ρ):uT h x o K=(uT h x o some).bind K:=by
 unfold uT; (repeat' split)<;>rfl
def rM (P:Program) (h:AS Blk) (t:TypeId) (a:AV) (K:AV->AN ρ):J5 P h t a K=(J5 P h t a some).bind K:=by
 unfold J5; (repeat' split)<;>rfl
def oa (P:Program) (h:AS Blk) (t:TypeId) (a v:AV) (K:AS Blk->AN ρ):ph P h t a v K=(ph P h t a v some).bind K:=by
 unfold ph; (repeat' split)<;>rfl
def wU (sz:Nat) (h:AS Blk) (x:AV) (lo hi:AN AV) (eat:Bool) (K:AV->AS Blk->AN ρ) :
 ox sz h x lo hi eat K=(ox sz h x lo hi eat fun v h=>some (v,h)).bind fun r=>K r.1 r.2:=by
 unfold ox; (repeat' split)<;>rfl
def tU (P:Program) (h:AS Blk) (nid:Nat) (t:TypeId) (s x:AV) (K:AV->AS Blk->AN ρ) :
 tV P h nid t s x K=(tV P h nid t s x fun v h=>some (v,h)).bind fun r=>K r.1 r.2:=by
 unfold tV; (repeat' split)<;>rfl
def Ds (P:Program) (h:AS Blk) (nid:Nat) (t:TypeId) (s:AV) (id g:Nat) (K:AV->AS Blk->AN ρ) :
 QG P h nid t s id g K=(QG P h nid t s id g fun v h=>some (v,h)).bind fun r=>K r.1 r.2:=by
 unfold QG; (repeat' split)<;>rfl
def Dp (P:Program) (h:AS Blk) (nid n:Nat) (t:TypeId) (ps:AS (Nat×AV)) (K:AV->AS Blk->AN ρ) :
 UO P h nid n t ps K=(UO P h nid n t ps fun v h=>some (v,h)).bind fun r=>K r.1 r.2:=by
 unfold UO; (repeat' split)<;>rfl
def wR (P:Program) (h:AS Blk) (nid:Nat) (t:TypeId) (s x:AV) (K:AV->AS Blk->AN ρ) :
 AD P h nid t s x K=(AD P h nid t s x fun v h=>some (v,h)).bind fun r=>K r.1 r.2:=by
 unfold AD; (repeat' split)<;>rfl
def xH (P:Program) (h:AS Blk) (t:TypeId) (x:AV) (K:AS Blk->AN ρ):Dw P h t x K=(Dw P h t x some).bind K:=by
 unfold Dw; (repeat' split)<;>rfl
def lE (P:Program) (h:AS Blk) (t:TypeId) (m i:AV) (ok:Bool) (K:AV->AN ρ):lF P h t m i ok K=(lF P h t m i ok some).bind K:=by
 unfold lF; (repeat' split)<;>rfl
def jr (P:Program) (h:AS Blk) (t:TypeId) (m i x:AV) (K:AS Blk->AN ρ):ţ P h t m i x K=(ţ P h t m i x some).bind K:=by
 unfold ţ; (repeat' split)<;>rfl
def θ (gt:Bool) (l:AS AV) (K:AV->AN ρ):∀x,jk gt x l K=(jk gt x l some).bind K:=by
 induction l with
 |nil=>intro x; rfl
 |cons y l b =>
  intro x
  cases x<;>cases y<;>try rfl
  unfold jk; (repeat' split)<;>first|rfl|exact b _
def aeM {α β γ:Type} {x:AN α} {y:AN β} {f:α->AN β} {g:β->AN γ} {k:α->AN γ} {z:AN γ}
 (b:z=x.bind k) (h2:y=x.bind f) (h:∀a,k a=(f a).bind g):z=y.bind g:=by
 subst b h2; cases x with
 |none=>rfl
 |some a=>exact h a
def xl (P:Program) (op:BinOp) (t:TypeId) (x:AV) (K:AV->AN ρ):aiz P op t x K=(aiz P op t x some).bind K:=by
 unfold aiz; (repeat' split)<;>rfl
def iZ (s:ByteArray) (j:Int) (K:AV->AN ρ):ot s j K=(ot s j some).bind K:=by
 unfold ot; (repeat' split)<;>rfl
def iY (s:ByteArray) (lo hi:AN AV) (K:AV->AN ρ):oq s lo hi K=(oq s lo hi some).bind K:=by
 unfold oq; (repeat' split)<;>rfl
def oo (h:AS Blk) (x:AV) (K:AV->AN ρ):zw h x K=(zw h x some).bind K:=by
 unfold zw; (repeat' split)<;>rfl
def xm (s:ByteArray) (K:AN AV->AN ρ):∀es:AS (ByteArray×AV),zm s es K=(zm s es some).bind K
 |[]=>rfl
 |e::es=>by
  unfold zm
  split
  ·rfl
  ·exact xm s K es
def lG (P:Program) (h:AS Blk) (t:TypeId) (id:Nat) (i:AV) (ok:Bool) (K:AV->AN ρ):qt P h t id i ok K=(qt P h t id i ok some).bind K:=by
 unfold qt; (repeat' split)<;>first|rfl|exact aeM (xm _ _ _) (xm _ _ _) fun _=>by(repeat' split)<;>rfl
def jt (P:Program) (h:AS Blk) (t:TypeId) (id:Nat) (i x:AV) (K:AS Blk->AN ρ):Ť P h t id i x K=(Ť P h t id i x some).bind K:=by
 unfold Ť; (repeat' split)<;>rfl
def Bg (h:AS Blk) (x:AV) (K:AV->AS Blk->AN ρ):PB h x K=(PB h x fun v h'=>some (v,h')).bind fun r=>K r.1 r.2:=by
 unfold PB; (repeat' split)<;>rfl
def opR (P:Program) (S:St) (nid:Nat) (eat:Bool) (o:Op):AN (AV×St):=opK P S nid eat o fun v S=>some (v,S)
def ė {α β γ:Type} {x:AN α} {y:AN β} {f:α->AN β} {g:β->AN γ} {k:α->AN γ} {z:AN γ}
 (b:z=x.bind k) (h2:y=x.bind f) (h:∀a,k a=(f a).bind g):z=y.bind g:=by
 subst b h2; cases x with
 |none=>rfl
 |some a=>exact h a
def ω (j:Int) (K:Nat->AN ρ):∀(n q:Nat),LA n q j K=(LA n q j some).bind K
 |0,_=>rfl
 |n+1,q=>by
  unfold LA
  split
  ·rfl
  ·exact ω j K n (q+1)
def DZ {j:Int} {v:Nat}:∀{n q:Nat},LA n q j some=some v->j=(v:Int)/\q<=v/\v<q+n
 |0,_,h=>by cases h
 |n+1,q,h=>by
  unfold LA at h
  split at h
  ·rename_i hd;cases h;exact⟨of_decide_eq_true hd,cJ _,by omega⟩
  ·obtain⟨b,h2,c⟩:=DZ h;exact⟨b,by omega,by omega⟩
def Pu (P:Program) (S:St) (nid:Nat) (eat:Bool) (o:Op) (K:AV->St->AN ρ) :
 opK P S nid eat o K=(opR P S nid eat o).bind fun r=>K r.1 r.2:=by
 unfold opR;unfold opK;dsimp only
 (repeat' split)<;>first
  |rfl
  |exact ė (xg ..) (xg ..) fun _=>rfl
  |exact ė (rM ..) (rM ..) fun _=>rfl
  |exact ė (oa ..) (oa ..) fun _=>rfl
  |exact ė (xN ..) (xN ..) fun _=>rfl
  |exact ė (jr ..) (jr ..) fun _=>rfl
  |exact ė (lE ..) (lE ..) fun _=>rfl
  |exact ė (tU ..) (tU ..) fun _=>rfl
  |exact ė (Ds ..) (Ds ..) fun _=>rfl
  |exact ė (Dp ..) (Dp ..) fun _=>rfl
  |exact ė (wR ..) (wR ..) fun _=>rfl
  |exact ė (xH ..) (xH ..) fun _=>rfl
  |exact ė (θ _ _ _ _) (θ _ _ _ _) fun _=>rfl
  |exact ė (AB ..) (AB ..) fun _=>rfl
  |exact ė (wU ..) (wU ..) fun _=>rfl
  |exact ė (oc ..) (oc ..) fun _=>rfl
  |exact ė (oh ..) (oh ..) fun _=>rfl
  |exact ė (xl ..) (xl ..) fun _=>rfl
  |exact ė (iZ ..) (iZ ..) fun _=>rfl
  |exact ė (iY ..) (iY ..) fun _=>rfl
  |exact ė (oo ..) (oo ..) fun _=>rfl
  |exact ė (lG ..) (lG ..) fun _=>rfl
  |exact ė (jt ..) (jt ..) fun _=>rfl
  |exact ė (Bg ..) (Bg ..) fun _=>rfl
  |exact ė (ω ..) (ω ..) fun _=>rfl
  |exact ė (ω ..) (ω ..) fun _=>by(repeat' split)<;>rfl
end Go.Am
end

noncomputable section
namespace Go.Am
variable [ë] [Ð]
section
variable {ν ν':Nat->Value} {h h':AS Blk} {w w':World} {P:Program}
def Vz {t:TypeId} {s:ByteArray} {k:IntKind} {j:Int} {v:AV} (H:HR ν h w) (c:P.underlying t=some .string) (e:ot s j some=some v):Ķ P ν h w (Instr.index t (.string s) (.int k j)) v h:=by
 unfold ot at e
 split at e<;>try (cases e; done)
 rename_i h0;have h0:=of_decide_eq_true h0
 split at e<;>try (cases e; done)
 rename_i b hb;cases e;refine Ķ.still H (u:=.int .u8 b.toNat) ?_ rfl;simp only[Instr.index,asIntOf,Sem.run_bind,Sem.run_pure,Result.andThen_ok,run_underlying c];rw[if_pos h0,hb];rfl
def oy {t:TypeId} {s:ByteArray} {lo hi:AN Value} (b:P.underlying t=some .string):(Instr.sliceAt t (.string s) lo hi none).run P w=(Instr.slice t (.string s) lo hi none).run P w:=by
 simp only[Instr.sliceAt,Sem.run_bind,run_underlying b,Result.andThen_ok]
def Vy {t:TypeId} {s:ByteArray} {lo hi:AN AV} {b c:AN Value} {v:AV} (H:HR ν h w) (g:P.underlying t=some .string) (e:oq s lo hi some=some v)
 (o:∀y,lo=some y->∃u,b=some u/\VR ν h w y u) (h2:lo=none->b=none) (j:∀y,hi=some y->∃u,c=some u/\VR ν h w y u) (p:hi=none->c=none):Ķ P ν h w (Instr.sliceAt t (.string s) b c none) v h:=by
 unfold oq at e
 split at e
 ·rename_i k l i m;obtain⟨_,rfl,f⟩:=o _ rfl;obtain⟨_,rfl,d⟩:=j _ rfl;have f:_=Value.int k l:=f;have d:_=Value.int i m:=d;subst f d
  split at e<;>try (cases e; done)
  rename_i hb;simp only[cM,decide_eq_true_eq] at hb;cases e;refine Ķ.still H (u:=.string (s.extract l.toNat m.toNat)) ?_ rfl;rw[oy g,run_slice_string w t s k i l m g hb.1 hb.2.1 hb.2.2]
 ·rename_i k l;obtain⟨_,rfl,f⟩:=o _ rfl;have f:_=Value.int k l:=f;subst f;obtain rfl:=p rfl
  split at e<;>try (cases e; done)
  rename_i hb;simp only[cM,decide_eq_true_eq] at hb;cases e;refine Ķ.still H (u:=.string (s.extract l.toNat s.size)) ?_ rfl;rw[oy g,run_slice_string_from_if w t s k l g,if_pos hb]
 ·rename_i k m;obtain⟨_,rfl,d⟩:=j _ rfl;have d:_=Value.int k m:=d;subst d;obtain rfl:=h2 rfl
  split at e<;>try (cases e; done)
  rename_i hb;simp only[cM,decide_eq_true_eq] at hb;cases e;refine Ķ.still H (u:=.string (s.extract 0 m.toNat)) ?_ rfl;rw[oy g,run_slice_string_to_if w t s k m g,if_pos hb]
 ·cases e
def aft {t:TypeId} (h:u8T P t=true):P.underlying t=some (.int .u8):=by
 unfold u8T at h
 split at h
 ·assumption
 ·cases h
def ag8 {d dst e:TypeId} {x v:AV} {m:Value} (H:HR ν h w) (o:P.underlying d=some (.slice e)) (hd:P.underlying dst=some .string) (r:P.underlying e=some (.int .u8)) (A:VR ν h w x m) (f:zw h x some=some v):Ķ P ν h w (convert d dst m) v h:=by
 unfold zw at f
 split at f<;>try (cases f; done)
 rename_i id g
 split at f<;>try (cases f; done)
 rename_i g' xs p
 split at f<;>try (cases f; done)
 rename_i D;cases f;obtain⟨J,t,N,fz,y,j,C,B⟩:=A;rw[p] at j; cases j;have l:=B (eq_of_beq D);have s:=H.blk id;rw[p] at s;obtain⟨base,cap,I,h2,G⟩:=s;refine Ķ.still H (u:=.string (qG xs)) ?_ rfl;rw[l,I];rcases G with⟨rfl,K⟩|⟨b,off,c,q,rfl,M,L,E⟩
 ·have:xs=[]:=dg.1 (by omega);subst this;exact run_convert_bytes_nil w d e o r _ _ dst hd
 ·refine run_convert_bytes_arg w d e o r b off xs.length cap xs rfl (fun i hi=>?_) dst hd;obtain⟨us,k,z⟩:=E i xs[i] (cI hi);have k:us=[Value.int .u8 xs[i]]:=k;subst k;have:=z 0 _ rfl;rw[List.getD_eq_getElem?_getD,cI hi];simpa[Ty.size] using this
def XL {a b:ByteArray}:ahv a b=true↔a=b:=by
 unfold ahv;rw[decide_eq_true_eq];constructor
 ·intro h;exact ByteArray.ext (eX h)
 ·rintro rfl; rfl
def afH (a b:ByteArray):(a==b)=ahv a b:=by
 have h:(a==b)=(a.data==b.data):=rfl;rw[h,d8,beq_iff_eq,XL];exact⟨fun h=>ByteArray.ext h,fun h=>by rw[h]⟩
def Ru {t:TypeId} (h:strT P t=true):P.underlying t=some .string:=by
 unfold strT at h
 split at h
 ·assumption
 ·cases h
def AP {t:TypeId} {s:ByteArray} {empty:Bool} (b:P.underlying t=some .string) (m:Nat):(Instr.checkKey empty (m+1) t (.string s)).run P w=.ok () w:=by
 simp[Instr.checkKey,run_underlying b]
abbrev Q9 (ν:Nat->Value) (h:AS Blk) (w:World) (es:AS (ByteArray×AV)) (ms:AS MapEntry):Prop :=
 ò (fun(e:ByteArray×AV) (m:MapEntry)=>m.key=.string e.1/\e.2.isFn=true/\VR1 ν h w e.2 m.val) es ms
def Kx {s:ByteArray}:∀(es:AS (ByteArray×AV)) (ms:AS MapEntry) (i:Nat),Q9 ν h w es ms ->
 (zm s es some=some none/\Instr.findNow .string (.string s) ms i=some none/\Ow s es=true) \/
 ∃v u j,zm s es some=some (some v)/\Instr.findNow .string (.string s) ms i=some (some (j,u))/\v.isFn=true/\VR1 ν h w v u/\Ow s es=false
 |[],[],i,_=>.inl ⟨rfl,rfl,rfl⟩
 |[],_::_,_,c=>c.elim
 |_::_,[],_,c=>c.elim
 |e::es,m::ms,i,c=>by
  obtain⟨⟨q,h2,p⟩,c⟩:=c
  have d:Instr.sameNow .string (.string s) m.key=some (ahv s e.1):=by rw[q,<-afH]; rfl
  cases b:ahv s e.1 with
  |true =>
   rw[b] at d;exact .inr ⟨e.2,m.val,i,by simp[zm,b],by simp[Instr.findNow,d],h2,p,by simp[Ow,b]⟩
  |false =>
   rw[b] at d;rcases Kx (s:=s) es ms (i+1) c with⟨k,g,f⟩|⟨v,u,j,k,g,f,o,l⟩
   ·exact .inl ⟨by simp[zm,b,k],by simp[Instr.findNow,d,g],by unfold Ow at f ⊢; rw[List.all_cons,f,b]; rfl⟩
   ·exact .inr ⟨v,u,j,by simp[zm,b,k],by simp[Instr.findNow,d,g],f,o,by unfold Ow at l ⊢; rw[List.all_cons,l]; simp⟩
def adE (H:HR ν h w) {id:Nat} {es:AS (ByteArray×AV)} {um:Value} (k:lkB h id=.fns es) (i:VR ν h w (.ofn id) um) :
 ∃(b:Nat) (c:Array MapEntry) (d:Nat),um=.map (some b)/\ν id=.map (some b)/\w.heap[b]?=some (.map c d)/\Q9 ν h w es c.toList:=by
 obtain⟨_,m,j,g⟩:=i;have e:=H.blk id;rw[k] at e;obtain⟨b,c,d,f,h2,l⟩:=e;exact⟨b,c,d,by rw[g,f],f,h2,l⟩
def aax {t:TypeId} {id:Nat} {i v:AV} {um ui:Value} {ok:Bool} (H:HR ν h w) (e:qt P h t id i ok some=some v) (K:VR ν h w (.ofn id) um) (hi:VR ν h w i ui):Ķ P ν h w (Instr.lookup t um ui ok) v h:=by
 unfold qt at e
 split at e<;>try (cases e; done)
 rename_i J et G
 split at e<;>try (cases e; done)
 rename_i z g
 split at e<;>try (cases e; done)
 rename_i s es x L;have A:=Ru x;have hi:ui=.string s:=hi;subst hi;obtain⟨b,c,E,rfl,_,hb,O⟩:=adE H L K
 cases d:P.info? et with
 |none=>simp[d] at g
 |some l =>
 cases f:l.zero with
 |none=>simp[d,f] at g
 |some p =>
 simp only[d,f,ez,dT,Option.some.injEq] at g;subst g;have m:∀em,(Instr.checkKey em 10000 J (.string s)).run P w=.ok () w:=fun em=>AP A 9999
 have run:(∀y j,Instr.findNow .string (.string s) c.toList 0=some (some (j,y))->(Instr.lookup t (.map (some b)) (.string s) ok).run P w=.ok (if ok then .tuple #[y,.bool true] else y) w) /\
  (Instr.findNow .string (.string s) c.toList 0=some none->(Instr.lookup t (.map (some b)) (.string s) ok).run P w=.ok (if ok then .tuple #[p,.bool false] else p) w):=by
  constructor
  ·intro y j C;simp only[Instr.lookup,Sem.run_bind,run_underlying G,Result.andThen_ok,Sem.run_pure,i6 hb,m];simp[Instr.findKey,run_underlying A,C]
  ·intro C;simp only[Instr.lookup,Sem.run_bind,run_underlying G,Result.andThen_ok,Sem.run_pure,i6 hb,m];simp[Instr.findKey,run_underlying A,C,zeroValue,typeInfo,d,f]
 have k:∀{V:AV} {U:Value} {B:Bool},V.isTup=false->VR ν h w V U->VR ν h w (.tup [V,.bool B]) (.tuple #[U,.bool B]):=fun {V U B} r M=>by
  refine⟨#[U,.bool B],rfl,?_,rfl,trivial⟩
  rwa [sa r] at M
 rw[xm] at e;rcases Kx (s:=s) es c.toList 0 O with⟨D,o,_⟩|⟨q,u,j,D,o,I,R,_⟩
 ·rw[D] at e;dsimp only[Option.bind_some] at e;have g:=US (ν:=ν) (h:=h) (w:=w) p
  cases ok with
  |false=>cases e; exact Ķ.still H (run.2 o) g
  |true=>cases e; exact Ķ.still H (run.2 o) (k (UR p) g)
 ·rw[D] at e;dsimp only[Option.bind_some] at e
  have r:VR ν h w q u:=by
   cases q<;>try cases I
   exact R
  have N:q.isTup=false:=by cases q<;>first|rfl|cases I
  cases ok with
  |false=>cases e; exact Ķ.still H (run.1 _ _ o) r
  |true=>cases e; exact Ķ.still H (run.1 _ _ o) (k N r)
def aab {nid:Nat} {t:TypeId} (H:HR ν h w) (c:nid<h.length) (hd:lkB h nid=.dead):Ķ P ν h w (Instr.makeMap t none) (.ofn nid) (ì h nid (.fns [])):=by
 obtain⟨ev,d⟩:=Ev.new (w':=w.alloc (.map #[] 0)) (o:=.map #[] 0) H (id:=nid) (B:=.fns []) (V:=.map (some w.heap.size)) c hd rfl rfl rfl rfl (fun b hb=>by cases hb; rfl) fun ev =>
  ⟨w.heap.size,#[],0,Í _ _ _,heap_alloc_new w _,trivial⟩
 refine⟨_,_,.map (some w.heap.size),?_,⟨rfl,[],Ü _ c,(Í _ _ _).symm⟩,d,ev,Ï _ _ _⟩;simp[Instr.makeMap]
def ab5 {nid:Nat} {t:TypeId} {s:ByteArray} (H:HR ν h w) (c:nid<h.length) (hd:lkB h nid=.dead) (d:P.underlying t=some .string):Ķ P ν h w (Instr.range t (.string s)) (.oit nid) (ì h nid (.iter s 0)):=by
 obtain⟨ev,e⟩:=Ev.new (w':=w.alloc (.stringIter s 0)) (o:=.stringIter s 0) H (id:=nid) (B:=.iter s 0) (V:=.pointer (some ⟨w.heap.size,0,none⟩)) c hd rfl rfl rfl rfl (fun b hb=>by cases hb; rfl) fun ev =>
  ⟨w.heap.size,Í _ _ _,heap_alloc_new w _,dJ 0⟩
 refine⟨_,_,.pointer (some ⟨w.heap.size,0,none⟩),?_,⟨rfl,s,0,Ü _ c,(Í _ _ _).symm⟩,e,ev,Ï _ _ _⟩;simp[Instr.range,Sem.run_bind,run_underlying d]
def ais (w:World) (k:Nat) (s:ByteArray) (b:Nat) (ty:TypeId) (c:w.heap[k]?=some (.stringIter s b)) (h:b<s.size) :
 (Instr.next (.pointer (some ⟨k,0,none⟩)) true ty).run P w =
  .ok (.tuple #[.bool true,.int .i64 b,.int .i32 (Utf8.decode s b).1]) {w with heap:=w.heap.setIfInBounds k (.stringIter s (b+(Utf8.decode s b).2))}:=by
 simp only[Instr.next,getObj,setObj,Sem.run_bind,Sem.run,c,Result.andThen,h,if_true];simp[goInt]
def af1 (w:World) (k:Nat) (s:ByteArray) (b:Nat) (ty:TypeId) (c:w.heap[k]?=some (.stringIter s b)) (h:¬b<s.size) :
 (Instr.next (.pointer (some ⟨k,0,none⟩)) true ty).run P w=.ok (.tuple #[.bool false]) w:=by
 simp[Instr.next,getObj,Sem.run,c,h]
def air {x v:AV} {u:Value} {ty:TypeId} (H:HR ν h w) (e:(PB h x fun v h'=>some (v,h'))=some (v,h')) (o:VR ν h w x u):Ķ P ν h w (Instr.next u true ty) v h':=by
 unfold PB at e
 split at e<;>try (cases e; done)
 rename_i id
 split at e<;>try (cases e; done)
 rename_i s p d;obtain⟨I,E,G,A,t⟩:=o;subst t;have m:=H.blk id;rw[d] at m;obtain⟨b,g,h2,D⟩:=m;have f:id<h.length:=Ņ d (by simp);have j:=à h2;have z:(p.toNat:Int)=p:=gu D
 split at e
 ·rename_i hd;cases e;have hd:=of_decide_eq_true hd;rw[zQ] at hd
  have y:p.toNat<s.size:=by omega
  have r:(p+widI s p).toNat=p.toNat+(Utf8.decode s p.toNat).2:=by unfold widI; omega
  have c:∀q,q<w.heap.size->((lkB h id).live=true->¬ę (ν id) q)->({w with heap:=w.heap.setIfInBounds b (.stringIter s (p.toNat+(Utf8.decode s p.toNat).2))}:World).heap[q]?=w.heap[q]?:=fun q _ i=>by
   have:b≠q:=fun C=>i (by rw[d]; rfl) (by rw[g,C]; rfl);simp[eN,this]
  have l:(Blk.iter s (p+widI s p)).live=true->∀q,ę (ν id) q->((lkB h id).live=true/\ę (ν id) q)\/w.heap.size<=q:=fun _ q i=>.inl ⟨by rw[d]; rfl,i⟩;have ev:=Ev.upd H (B:=.iter s (p+widI s p)) (V:=ν id) (w':={w with heap:=w.heap.setIfInBounds b (.stringIter s (p.toNat+(Utf8.decode s p.toNat).2))}) f rfl rfl rfl (by simp) c l (by rw[d]; exact⟨⟨_,rfl⟩,Í _ _ _⟩);have k:=HR.upd H f ev c l ⟨b,(Í _ _ _).trans g,by rw[r]; simp[j],by unfold widI; omega⟩;rw[i5] at ev k;refine⟨ν,_,_,by rw[g]; exact ais w b s p.toNat ty h2 y,⟨#[.bool true,.int .i64 p.toNat,.int .i32 (Utf8.decode s p.toNat).1],rfl,rfl,congrArg (Value.int .i64) z,rfl,trivial⟩,k,ev,Ï _ _ _⟩
 ·rename_i hd;cases e;have hd:=of_decide_eq_false hd;rw[zQ] at hd;exact Ķ.still H (by rw[g]; exact af1 w b s p.toNat ty h2 (by omega)) ⟨#[.bool false],rfl,rfl,trivial⟩
def Bk {t:TypeId} {id:Nat} {i x:AV} {um ui f:Value} (H:HR ν h w) (e:Ť P h t id i x some=some h') (M:VR ν h w (.ofn id) um) (hi:VR ν h w i ui) (K:VR ν h w x f) :
 ∃w',(Instr.mapUpdate t um ui f).run P w=.ok () w'/\HR ν h' w'/\Ev h.length ν h w ν h' w'/\h'.length=h.length:=by
 unfold Ť at e
 split at e<;>try (cases e; done)
 rename_i J et L
 split at e<;>try (cases e; done)
 rename_i s es p j
 split at e<;>try (cases e; done)
 rename_i y;simp only[cM] at y;cases e;have C:=Ru p;have hi:ui=.string s:=hi;subst hi;obtain⟨m,b,c,rfl,I,h2,E⟩:=adE H j M;have k:id<h.length:=Ņ j (by simp);have u:=à h2
 have l:x.isFn=true:=by cases x<;>first|rfl|cases y.2
 have o:VR1 ν h w x f:=by
  cases x<;>try cases l
  exact K
 have v:∀em,(Instr.checkKey em 10000 J (.string s)).run P w=.ok () w:=fun em=>AP C 9999
 have g:Instr.findNow .string (.string s) b.toList 0=some none:=by
  rcases Kx (s:=s) es b.toList 0 E with⟨_,O,_⟩|⟨_,_,_,_,_,_,_,G⟩
  ·exact O
  ·rw[y.1] at G; cases G
 have d:∀q,q<w.heap.size->((lkB h id).live=true->¬ę (ν id) q)->({w with heap:=w.heap.setIfInBounds m (.map (b.push {key:=.string s,val:=f,born:=c}) (c+1))}:World).heap[q]?=w.heap[q]?:=fun q _ r=>by
  have:m≠q:=fun N=>r (by rw[j]; rfl) (by rw[I,N]; rfl);simp[eN,this]
 have D:(Blk.fns (es++[(s,x)])).live=true->∀q,ę (ν id) q->((lkB h id).live=true/\ę (ν id) q)\/w.heap.size<=q:=fun _ q r=>.inl ⟨by rw[j]; rfl,r⟩;have ev:=Ev.upd H (B:=.fns (es++[(s,x)])) (V:=ν id) (w':={w with heap:=w.heap.setIfInBounds m (.map (b.push {key:=.string s,val:=f,born:=c}) (c+1))}) k rfl rfl rfl (by simp) d D (by rw[j]; exact⟨⟨_,rfl⟩,Í _ _ _⟩)
 have z:Q9 ν h w (es++[(s,x)]) (b.push {key:=.string s,val:=f,born:=c}).toList:=by
  rw[Array.toList_push];exact ò.append E ⟨⟨rfl,l,o⟩,trivial⟩
 have A:=HR.upd H k ev d D ⟨m,b.push {key:=.string s,val:=f,born:=c},c+1,(Í _ _ _).trans I,by simp[u],z.mono fun _ _ q=>⟨q.1,q.2.1,q.2.2.ev ev⟩⟩;rw[i5] at ev A;refine⟨_,?_,A,ev,Ï _ _ _⟩;simp only[Instr.mapUpdate,Sem.run_bind,run_underlying L,Result.andThen_ok,i6 h2,v];simp[Instr.findKey,run_underlying C,g,setObj,Sem.run,h2]
end
end Go.Am
end

noncomputable section
namespace Go.Am
variable [ë] [Ð]
section
variable {ν ν':Nat->Value} {w w':World} {P:Program}
def abn (ν:Nat->Value) (S:St) (w:World) (r:Result Next) (v:AV) (b:St):Prop :=
 ∃ν' w' u,(r=.ok (.value u) w'\/(r=.ok .skip w'/\u=undef))/\VR ν' b.h w' v u/\HR ν' b.h w'/\Ev S.h.length ν S.h w ν' b.h w'/\b.h.length=S.h.length/\b.t=S.t
def Ķ.step {S:St} {x:Sem Value} {v:AV} {h':AS Blk} (hd:Ķ P ν S.h w x v h') :
 abn ν S w ((do let u <-x; pure (.value u):Sem Next).run P w) v {t:=S.t,h:=h'}:=by
 obtain⟨ν',w',u,e,h2,d,c,b⟩:=hd;refine⟨ν',w',u,.inl ?_,h2,d,c,b,rfl⟩;simp[e]
def abn.still {S:St} {r:Result Next} {v:AV} {u:Value} (H:HR ν S.h w) (c:r=.ok (.value u) w) (b:VR ν S.h w v u):abn ν S w r v S :=
 ⟨ν,w,u,.inl c,b,H,Ev.refl _ _ _ _,rfl,rfl⟩
def uO {S:St} {x:Sem Unit} {h':AS Blk} (hd:∃w',x.run P w=.ok () w'/\HR ν h' w'/\Ev S.h.length ν S.h w ν h' w'/\h'.length=S.h.length) :
 abn ν S w ((do x; pure .skip:Sem Next).run P w) .any {t:=S.t,h:=h'}:=by
 obtain⟨w',e,d,c,b⟩:=hd;refine⟨ν,w',undef,.inr ⟨?_,rfl⟩,trivial,d,c,b,rfl⟩;simp[e]
def adn {a:AV} {v:Value} {h:AS Blk} (hi:isV0 a=true) (b:VR ν h w a v):VR0 ν h w a v:=by
 have d:a.isFn=false:=by cases a<;>first|rfl|cases hi
 have h2:a.isAgg=false:=by cases a<;>first|rfl|cases hi
 have c:a.isTup=false:=by cases a<;>first|rfl|cases hi
 rwa [sa c,uB h2,sc d] at b
def ò.of_map {α β γ:Type} {R:β->γ->Prop} {f:α->β} {g:α->γ}:∀{l:AS α},(∀x∈l,R (f x) (g x))->ò R (l.map f) (l.map g)
 |[],_=>trivial
 |x::l,h=>⟨h x (by simp),ò.of_map fun y b=>h y (by simp[b])⟩
def afK (k:IntKind) (a b:Int):(Builtin.max2 (.int k a) (.int k b)).run P w=.ok (.int k (Lu a b)) w:=rfl
def afJ (k:IntKind) (a b:Int):(Builtin.min2 (.int k a) (.int k b)).run P w=.ok (.int k (Uk a b)) w:=rfl
def abW {S:St} {a:Act} {x y:Operand} (h:sh x y=true):a.eval x=a.eval y:=by
 unfold sh at h
 split at h
 ·have:=eq_of_beq h; subst this; rfl
 ·have:=of_decide_eq_true h; subst this; rfl
 ·cases h
def ġ {α β:Type} {x:AN α} {f:α->AN β} {r:β} (h:x.bind f=some r):∃a,x=some a/\f a=some r:=by
 cases x with
 |none=>cases h
 |some a=>exact⟨a,rfl,h⟩
def arr1 {α:Type} {a:Array α} {x:α} (h:a.toList=[x]):a=#[x]:=eX (by simpa using h)
def arr2 {α:Type} {a:Array α} {x y:α} (h:a.toList=[x,y]):a=#[x,y]:=eX (by simpa using h)
def jG {S:St} {a:Act} {o:Oper} {b:Builtin} {args:Array Operand} {tys:Array TypeId} {f:Array TypeId->TypeId->Array Value->Sem Value} (d:o.op=.call ⟨.builtin b,args,tys⟩)
 (hb:∀c vs,builtin b tys o.type c vs=(do pure (.value (<-f tys o.type vs)):Sem Next)) :
 execOp a.eval o=(do let u <-f tys o.type (args.map a.eval); pure (.value u)):=by
 unfold execOp;rw[d];simp only[resolve,pure_bind,invoke,hb]
def afS {S S':St} {a:Act} {o:Oper} {nid:Nat} {eat:Bool} {v:AV} {clone:Nat->Bool} (H:Sim ν S a w) (hn:û clone o.op=true->nid<S.h.length/\lkB S.h nid=.dead)
 (e:opR P S nid eat o.op=some (v,S')):abn ν S w ((execOp a.eval o).run P w) v S':=by
 have E:=H.heap
 cases A:o.op with
 |move x =>
  rw[A] at e; cases e;exact abn.still E (by unfold execOp; rw[A]; rfl) (Ć H x)
 |assign x =>
  rw[A] at e; cases e;exact abn.still E (by unfold execOp; rw[A]; rfl) (Ć H x)
 |pick c x y =>
  rw[A] at e;simp only[opR,opK] at e
  split at e<;>try (cases e; done)
  rename_i b hb;have O:=Ć H c;rw[hb] at O;have O:a.eval c=.bool b:=O
  have D:(execOp a.eval o).run P w=.ok (.value (if b then a.eval x else a.eval y)) w:=by unfold execOp; rw[A]; simp[asBool,O]
  split at e
  ·cases e; exact abn.still E D (Ć H x)
  ·cases e; exact abn.still E D (Ć H y)
 |box W x =>
  rw[A] at e;simp only[opR,opK] at e
  split at e<;>try (cases e; done)
  rename_i cs R
  have D:execOp a.eval o=(do let u <-Instr.box W (a.eval x); pure (.value u)):=by unfold execOp; rw[A]
  rw[D]
  split at e
  ·split at e<;>try (cases e; done)
   split at e<;>try (cases e; done)
   rename_i y J;cases e;exact(ai1 E R J (Ć H x)).step
  ·cases e;obtain⟨B,h2⟩:=hn (by rw[A]; rfl);exact(box_ok E B h2 R (Ć H x)).step
 |alloc W =>
  rw[A] at e;simp only[opR,opK] at e
  split at e<;>try (cases e; done)
  rename_i z hz
  split at e<;>try (cases e; done)
  rename_i cs R;cases e;obtain⟨B,h2⟩:=hn (by rw[A]; rfl)
  have D:execOp a.eval o=(do let u <-Instr.alloc W true (.tuple #[]); pure (.value u)):=by unfold execOp; rw[A]
  rw[D];exact(ahe E B h2 hz R).step
 |build t ps =>
  rw[A] at e;simp only[opR,opK] at e
  have D:execOp a.eval o=(do let u <-Instr.build t (ps.map fun(i,x)=>(i,a.eval x)); pure (.value u)):=by unfold execOp; rw[A]
  rw[D]
  split at e<;>try (cases e; done)
  ·rename_i fs I
   split at e<;>try (cases e; done)
   rename_i hfs
   split at e<;>try (cases e; done)
   rename_i z hz
   split at e<;>try (cases e; done)
   rename_i zs X
   split at e<;>try (cases e; done)
   rename_i cs R;cases e;exact(MS H I hfs hz X R).step
  ·rename_i n W I
   split at e<;>try (cases e; done)
   rename_i sz z U hz
   split at e<;>try (cases e; done)
   rename_i zs X
   split at e<;>try (cases e; done)
   rename_i cs R;cases e;exact(Xk H I U hz X R).step
 |buildSlice t n ps =>
  rw[A] at e
  have D:execOp a.eval o=(do let u <-Instr.buildSlice t n (ps.map fun(i,x)=>(i,a.eval x)); pure (.value u)):=by unfold execOp; rw[A]
  rw[D];obtain⟨B,h2⟩:=hn (by rw[A]; rfl);simp only[opR,opK] at e
  split at e
  ·rw[Dp] at e;obtain⟨⟨M,h'⟩,L,T⟩:=ġ e;cases T;exact(aiR H B h2 L).step
  split at e<;>try (cases e; done)
  rename_i W hel
  split at e<;>try (cases e; done)
  rename_i ty hty
  split at e<;>try (cases e; done)
  rename_i O;simp only[cM,beq_iff_eq,decide_eq_true_eq] at O
  split at e<;>try (cases e; done)
  rename_i xs hxs;cases e;exact(QT H B h2 hel O.1 O.2.1 O.2.2 hxs).step
 |load t x =>
  rw[A] at e;simp only[opR,opK] at e;rw[rM] at e;obtain⟨M,B,h2⟩:=ġ e;cases h2
  have D:execOp a.eval o=(do let u <-Instr.loadAt t (a.eval x); pure (.value u)):=by unfold execOp; rw[A]
  rw[D];obtain⟨u,L,T⟩:=ade E B (Ć H x);exact(Ķ.still E L T).step
 |store t x y =>
  rw[A] at e;simp only[opR,opK] at e
  have D:execOp a.eval o=(do Instr.storeAt t (a.eval x) (a.eval y); pure .skip):=by unfold execOp; rw[A]
  rw[D]
  split at e
  ·split at e<;>try (cases e; done)
   rename_i id g lo n hsub
   split at e<;>try (cases e; done)
   rename_i ty g' xs hl
   split at e<;>try (cases e; done)
   rename_i O;simp only[cM,beq_iff_eq,decide_eq_true_eq] at O;obtain⟨rfl,hln⟩:=O;rw[oa] at e;obtain⟨h',B,h2⟩:=ġ e;cases h2;have J:=Ć H y;rw[hsub] at J;obtain⟨ν1,v1,H1,ev1⟩:=aiN E hl hln J;obtain⟨w',k1,k2,k3,k4⟩:=XH H1 B ((Ć H x).ev ev1) v1;refine⟨ν1,w',undef,.inr ⟨?_,rfl⟩,trivial,k2,ev1.trans k3 (fV (Ï _ _ _).symm),k4.trans (Ï _ _ _),rfl⟩;simp[k1]
  ·rw[oa] at e;obtain⟨h',B,h2⟩:=ġ e;cases h2;exact uO (XH E B (Ć H x) (Ć H y))
 |nilCheck x =>
  rw[A] at e;simp only[opR,opK] at e;have C:=Ć H x
  split at e<;>try (cases e; done)
  ·rename_i id off he;cases e;rw[he] at C;have K:=C;obtain⟨cs,b,B,h2,L⟩:=K;exact abn.still E (by unfold execOp; rw[A]; simp only[L]; rfl) (L▸C)
  ·rename_i t x' off he;cases e;rw[he] at C;have K:=C;obtain⟨b,o',us,L,T⟩:=K;exact abn.still E (by unfold execOp; rw[A]; simp only[L]; rfl) (L▸C)
  ·rename_i id g i off he
   split at e<;>try (cases e; done)
   rename_i t g' fz xs hl
   split at e<;>try (cases e; done)
   rename_i hgg;cases e;rw[he] at C;have K:=C;obtain⟨ho,t2,g2,fz2,xs2,hl2,hle,hf⟩:=K;rw[hl] at hl2; cases hl2;obtain⟨_,b,o',cap,_,L⟩:=hf (eq_of_beq hgg);exact abn.still E (by unfold execOp; rw[A]; simp only[L]; rfl) (L▸C)
 |binOp op t x y yt =>
  rw[A] at e;simp only[opR,opK] at e
  have D:execOp a.eval o=(do let u <-(do eqGuard op t x y (a.eval x) (a.eval y); binOp op t (a.eval x) (a.eval y)); pure (.value u)):=by unfold execOp; rw[A]
  rw[D]
  split at e
  ·rename_i hnil
   have J:y=.const .nilIface:=by
    unfold ado at hnil
    split at hnil
    ·rfl
    ·cases hnil
   subst J;rw[xl] at e;obtain⟨M,B,h2⟩:=ġ e;cases h2;exact(ifc_ok x E B (Ć H x)).step
  ·rw[xN] at e;obtain⟨M,B,h2⟩:=ġ e;cases h2;exact(ag9 x y E B (Ć H x) (Ć H y)).step
 |unOp op t x =>
  rw[A] at e;simp only[opR,opK] at e
  have D:execOp a.eval o=(do let u <-Op.unary op (a.eval x); pure (.value u)):=by unfold execOp; rw[A]
  rw[D];have C:=Ć H x
  split at e<;>try (cases e; done)
  ·rename_i b he;cases e;rw[he] at C;exact(abH (op:=.not) E C rfl).step
  ·rename_i k n he;rw[AB] at e;obtain⟨M,B,h2⟩:=ġ e;cases h2;rw[he] at C;exact(abH (op:=.neg) E C B).step
 |convert src dst x =>
  rw[A] at e;simp only[opR,opK] at e
  have D:execOp a.eval o=(do let u <-convert src dst (a.eval x); pure (.value u)):=by unfold execOp; rw[A]
  rw[D];have C:=Ć H x
  split at e<;>try (cases e; done)
  ·rename_i d k k' n U hd he;cases e;rw[he] at C;have C:a.eval x=.int k' n:=C;refine(Ķ.still (v:=.int k (k.wrap n)) (u:=.int k (k.wrap n)) E ?_ rfl).step;rw[C];simp only[convert,Sem.run_bind,run_underlying U,run_underlying hd,Result.andThen_ok];simp[Conv.intToInt]
  ·rename_i W U hd
   split at e<;>try (cases e; done)
   rename_i hu8;rw[oo] at e;obtain⟨M,B,h2⟩:=ġ e;cases h2;exact(ag8 E U hd (aft hu8) C B).step
 |makeFunc fn first caps =>
  rw[A] at e;simp only[opR,opK] at e
  split at e<;>try (cases e; done)
  rename_i O;simp only[cM,dw] at O;cases e
  have D:execOp a.eval o=(do let u <-Instr.makeFunc fn (first.map a.eval) (caps.map a.eval); pure (.value u)):=by unfold execOp; rw[A]
  rw[D];refine(Ķ.still (v:=.fn fn (first.toList.map (ev S.t)) (caps.toList.map (ev S.t))) (u:=.func fn (first.map a.eval) (caps.map a.eval)) E rfl ⟨_,_,rfl,?_,?_⟩).step
  ·rw[fU];exact ò.of_map fun x D=>adn (O.1 _ (List.mem_map_of_mem D)) (Ć H x)
  ·rw[fU];exact ò.of_map fun x D=>adn (O.2 _ (List.mem_map_of_mem D)) (Ć H x)
 |makeMap t r =>
  rw[A] at e;simp only[opR,opK] at e
  split at e<;>try (cases e; done)
  rename_i kt et I;obtain⟨B,h2⟩:=hn (by rw[A]; rfl)
  have D:execOp a.eval o=(do let u <-Instr.makeMap t none; pure (.value u)):=by unfold execOp; rw[A]; rfl
  rw[D]
  split at e<;>try (cases e; done)
  ·rename_i k M hk C
   split at e<;>try (cases e; done)
   cases e;exact(aaa k M E B h2).step
  ·split at e<;>try (cases e; done)
   cases e;exact(aab E B h2).step
 |makeSlice t l c =>
  rw[A] at e;simp only[opR,opK] at e
  split at e<;>try (cases e; done)
  rename_i k n W hsame hl hel
  split at e<;>try (cases e; done)
  rename_i ty hty
  split at e<;>try (cases e; done)
  rename_i hrow
  split at e<;>try (cases e; done)
  rename_i zs X
  split at e<;>try (cases e; done)
  rename_i z hz
  split at e<;>try (cases e; done)
  rename_i hb;simp only[cM,decide_eq_true_eq,Û] at hb;cases e;obtain⟨B,h2⟩:=hn (by rw[A]; rfl);have C:=Ć H l;rw[hl] at C;have C:a.eval l=.int k n:=C
  have O:a.eval c=.int k n:=by rw[<-abW (S:=S) hsame,C]
  have D:execOp a.eval o=(do let u <-Instr.makeSlice t (.int k n) (.int k n); pure (.value u)):=by unfold execOp; rw[A]; simp only[C,O]
  rw[D];exact(S6 E B h2 hel hrow X hz hb.1 hb.2).step
 |slice t x lo hi mx =>
  rw[A] at e;simp only[opR,opK] at e
  split at e<;>try (cases e; done)
  all_goals
   have D:execOp a.eval o=(do let u <-Instr.sliceAt t (a.eval x) (lo.map a.eval) (hi.map a.eval) none; pure (.value u)):=by unfold execOp; rw[A]; rfl
   rw[D]
  ·rename_i W I
   split at e<;>try (cases e; done)
   rename_i sz U;rw[wU] at e;obtain⟨⟨M,h'⟩,B,h2⟩:=ġ e;cases h2;refine(afF E I U B (Ć H x) (fun y J=>?_) (fun J=>?_) (fun y J=>?_) (fun J=>?_)).step
   ·cases lo with
    |none=>cases J
    |some l=>cases J; exact⟨_,rfl,Ć H l⟩
   ·cases lo with
    |none=>rfl
    |some l=>cases J
   ·cases hi with
    |none=>cases J
    |some l=>cases J; exact⟨_,rfl,Ć H l⟩
   ·cases hi with
    |none=>rfl
    |some l=>cases J
  ·rename_i I;have C:=Ć H x
   split at e<;>try (cases e; done)
   rename_i s U;rw[U] at C;have C:a.eval x=.string s:=C;rw[iY] at e;obtain⟨M,B,h2⟩:=ġ e;cases h2;rw[C];refine(Vy E I B (fun y J=>?_) (fun J=>?_) (fun y J=>?_) (fun J=>?_)).step
   ·cases lo with
    |none=>cases J
    |some l=>cases J; exact⟨_,rfl,Ć H l⟩
   ·cases lo with
    |none=>rfl
    |some l=>cases J
   ·cases hi with
    |none=>cases J
    |some l=>cases J; exact⟨_,rfl,Ć H l⟩
   ·cases hi with
    |none=>rfl
    |some l=>cases J
 |fieldAddr t x f =>
  rw[A] at e;simp only[opR,opK] at e
  split at e<;>try (cases e; done)
  rename_i fs I
  split at e<;>try (cases e; done)
  rename_i fd hf
  split at e<;>try (cases e; done)
  rename_i n U;rw[oc] at e;obtain⟨M,B,h2⟩:=ġ e;cases h2
  have D:execOp a.eval o=(do let u <-Instr.fieldAt t (a.eval x) f; pure (.value u)):=by unfold execOp; rw[A]
  rw[D];exact(UB E I hf U B (Ć H x)).step
 |field t x f =>
  rw[A] at e;simp only[opR,opK] at e;have C:=Ć H x
  split at e<;>try (cases e; done)
  rename_i fs cs I O
  split at e<;>try (cases e; done)
  rename_i fd hf
  split at e<;>try (cases e; done)
  rename_i agg n hl
  split at e<;>try (cases e; done)
  rename_i ds hg
  split at e<;>try (cases e; done)
  rename_i M V;cases e;rw[O] at C
  have D:execOp a.eval o=(do let u <-Instr.field t (a.eval x) f; pure (.value u)):=by unfold execOp; rw[A]
  rw[D];exact(agr E I hf hl hg V C).step
 |indexAddr t x i =>
  rw[A] at e;simp only[opR,opK] at e
  have D:execOp a.eval o=(do let u <-Instr.indexAt t (a.eval x) (a.eval i); pure (.value u)):=by unfold execOp; rw[A]
  rw[D]
  split at e<;>try (cases e; done)
  ·rename_i W I
   split at e<;>try (cases e; done)
   rename_i sz U;rw[oh] at e;obtain⟨M,B,h2⟩:=ġ e;cases h2;exact(agl E I U B (Ć H x) (Ć H i)).step
  ·rename_i n W I;have C:=Ć H x;have hi:=Ć H i
   split at e<;>try (cases e; done)
   rename_i id off k j Y hi'
   split at e<;>try (cases e; done)
   rename_i sz U;rw[ω] at e;obtain⟨q,B,h2⟩:=ġ e;obtain⟨rfl,_,hb⟩:=DZ B;cases h2;rw[Y] at C;rw[hi'] at hi;have hi:a.eval i=.int k (q:Int):=hi;rw[hi];have:=(Ki E I (j:=(q:Int)) (k:=k) ⟨by omega,by omega⟩ U C).step;simpa using this
 |index t x i =>
  rw[A] at e;simp only[opR,opK] at e
  have D:execOp a.eval o=(do let u <-Instr.index t (a.eval x) (a.eval i); pure (.value u)):=by unfold execOp; rw[A]
  rw[D];have C:=Ć H x;have hi:=Ć H i
  split at e<;>try (cases e; done)
  ·rename_i n W cs k j I Y hi';rw[ω] at e;obtain⟨q,B,h2⟩:=ġ e;obtain⟨rfl,_,hb⟩:=DZ B
   split at h2<;>try (cases h2; done)
   rename_i agg m hl
   split at h2<;>try (cases h2; done)
   rename_i ds hg
   split at h2<;>try (cases h2; done)
   rename_i M V;cases h2;rw[Y] at C;rw[hi'] at hi;have hi:a.eval i=.int k (q:Int):=hi;rw[hi];exact(WJ E I (j:=(q:Int)) (k:=k) ⟨by omega,by omega⟩ hl (by simpa using hg) V C).step
  ·rename_i s k j I Y hi';rw[iZ] at e;obtain⟨M,B,h2⟩:=ġ e;cases h2;rw[Y] at C;rw[hi'] at hi;have hi:a.eval i=.int k j:=hi;have C:a.eval x=.string s:=C;rw[hi,C];exact(Vz E I B).step
 |lookup t m i ok =>
  rw[A] at e;simp only[opR,opK] at e
  have D:execOp a.eval o=(do let u <-Instr.lookup t (a.eval m) (a.eval i) ok; pure (.value u)):=by unfold execOp; rw[A]
  rw[D];have V:=Ć H m
  split at e
  ·rename_i id hid;rw[hid] at V;rw[lG] at e;obtain⟨M,B,h2⟩:=ġ e;cases h2;exact(aax E B V (Ć H i)).step
  ·rw[lE] at e;obtain⟨M,B,h2⟩:=ġ e;cases h2;exact(ac6 E B V (Ć H i)).step
 |mapUpdate t m i x =>
  rw[A] at e;simp only[opR,opK] at e
  have D:execOp a.eval o=(do Instr.mapUpdate t (a.eval m) (a.eval i) (a.eval x); pure .skip):=by unfold execOp; rw[A]
  rw[D];have V:=Ć H m
  split at e
  ·rename_i id hid;rw[hid] at V;rw[jt] at e;obtain⟨h',B,h2⟩:=ġ e;cases h2;exact uO (Bk E B V (Ć H i) (Ć H x))
  ·rw[jr] at e;obtain⟨h',B,h2⟩:=ġ e;cases h2;exact uO (Fu E B V (Ć H i) (Ć H x))
 |insert t m i x =>
  rw[A] at e;simp only[opR,opK] at e
  have D:execOp a.eval o=(do Instr.mapUpdate t (a.eval m) (a.eval i) (a.eval x); pure .skip):=by unfold execOp; rw[A]
  rw[D];have V:=Ć H m
  split at e
  ·rename_i id hid;rw[hid] at V;rw[jt] at e;obtain⟨h',B,h2⟩:=ġ e;cases h2;exact uO (Bk E B V (Ć H i) (Ć H x))
  ·rw[jr] at e;obtain⟨h',B,h2⟩:=ġ e;cases h2;exact uO (Fu E B V (Ć H i) (Ć H x))
 |range t x =>
  rw[A] at e;simp only[opR,opK] at e
  split at e<;>try (cases e; done)
  rename_i s I C;cases e;obtain⟨B,h2⟩:=hn (by rw[A]; rfl)
  have D:execOp a.eval o=(do let u <-Instr.range t (a.eval x); pure (.value u)):=by unfold execOp; rw[A]
  have K:=Ć H x;rw[C] at K;have K:a.eval x=.string s:=K;rw[D,K];exact(ab5 E B h2 I).step
 |next x b =>
  rw[A] at e;simp only[opR,opK] at e
  cases b with
  |false=>cases e
  |true =>
  have D:execOp a.eval o=(do let u <-Instr.next (a.eval x) true o.type; pure (.value u)):=by unfold execOp; rw[A]
  rw[D];rw[Bg] at e;obtain⟨⟨M,h'⟩,B,h2⟩:=ġ e;cases h2;exact(air E B (Ć H x)).step
 |extract x i =>
  rw[A] at e;simp only[opR,opK] at e;have C:=Ć H x
  split at e<;>try (cases e; done)
  rename_i vs hvs
  split at e<;>try (cases e; done)
  rename_i M K;cases e;rw[hvs] at C;obtain⟨us,hu,h2⟩:=C;obtain⟨u,L,T⟩:=h2.get K;refine abn.still E (u:=u) (by unfold execOp; rw[A]; simp only[hu]; simp at L; simp[Instr.extract,L]) ?_
  cases I:v.isTup with
  |true =>
   cases v<;>try cases I
   exact T.elim
  |false=>rw[sa I]; exact T
 |call c =>
  obtain⟨f,args,tys⟩:=c;rw[A] at e
  cases f with
  |value f=>cases e
  |invoke r n=>cases e
  |builtin b =>
   simp only[opR,opK] at e
   split at e
   ·-- len
    rename_i x t rest G N;rw[xg] at e;obtain⟨M,B,h2⟩:=ġ e;cases h2;rw[jG (S:=S) (f:=Builtin.len_) A (fun _ _=>rfl),arr1 G,show Array.map a.eval #[x]=#[a.eval x] by simp]
    have Z:tys[0]?=some t:=by rw[<-gj,N]; rfl
    exact(len_ok E B (Ć H x) Z).step
   ·rename_i s x t t' G N;obtain⟨B,h2⟩:=hn (by rw[A]; rfl);rw[jG (S:=S) (f:=Builtin.append_) A (fun _ _=>rfl),arr2 G,arr2 N,show Array.map a.eval #[s,x]=#[a.eval s,a.eval x] by simp]
    split at e
    ·rename_i htt;have htt:=eq_of_beq htt;subst htt;have hvx:=Ć H x
     split at e
     ·rename_i id g hdp;rw[hdp] at hvx;rw[Ds] at e;obtain⟨⟨M,h'⟩,L,T⟩:=ġ e;cases T;exact(aiS E B h2 L (Ć H s) hvx).step
     ·rw[tU] at e;obtain⟨⟨M,h'⟩,L,T⟩:=ġ e;cases T;exact(aeU E B h2 L (Ć H s) hvx).step
    ·split at e<;>try (cases e; done)
     rename_i hu;rw[wR] at e;obtain⟨⟨M,h'⟩,L,T⟩:=ġ e;cases T;exact(afq E B h2 hu L (Ć H s) (Ć H x)).step
   ·rename_i x t G N
    split at e<;>try (cases e; done)
    rename_i d hd;rw[xH] at e;obtain⟨h',B,h2⟩:=ġ e;cases h2;rw[jG (S:=S) (f:=Builtin.clear_) A (fun _ _=>rfl),arr1 G,show Array.map a.eval #[x]=#[a.eval x] by simp]
    have Z:tys[0]?=some t:=by rw[<-gj,N]; rfl
    exact(agL Z E B (by rw[hd]; rfl) (Ć H x)).step
   ·rename_i x t rest G N
    split at e<;>try (cases e; done)
    rename_i W I D;cases e;have C:=Ć H x;rw[D] at C;have C:a.eval x=.slice none 0 0:=C;rw[jG (S:=S) (f:=Builtin.cap_) A (fun _ _=>rfl),arr1 G]
    have Z:tys[0]?=some t:=by rw[<-gj,N]; rfl
    exact(Ķ.still (v:=.int .i64 0) (u:=.int .i64 0) E (by simp[Builtin.cap_,Z,C,run_underlying I,goInt]) rfl).step
   ·rename_i x xs G;rw[θ] at e;obtain⟨M,B,h2⟩:=ġ e;cases h2;rw[jG (S:=S) (f:=Builtin.min_) A (fun _ _=>rfl)];obtain⟨u,L,T⟩:=Ij (P:=P) (f:=Builtin.min2) (gt:=false) (fun k p q=>afJ k p q) (xs.map (ev S.t)) (xs.map a.eval) _ v (a.eval x) B (Ć H x) (ò.of_map fun y _=>Ć H y);refine(Ķ.still E ?_ T).step;simp only[Builtin.min_,fU,G,eM];exact L
   ·rename_i x xs G;rw[θ] at e;obtain⟨M,B,h2⟩:=ġ e;cases h2;rw[jG (S:=S) (f:=Builtin.max_) A (fun _ _=>rfl)];obtain⟨u,L,T⟩:=Ij (P:=P) (f:=Builtin.max2) (gt:=true) (fun k p q=>afK k p q) (xs.map (ev S.t)) (xs.map a.eval) _ v (a.eval x) B (Ć H x) (ò.of_map fun y _=>Ć H y);refine(Ķ.still E ?_ T).step;simp only[Builtin.max_,fU,G,eM];exact L
   ·cases e
 |_=>rw[A] at e; cases e
end
end Go.Am
end

noncomputable section
namespace Go.Am
variable [ë] [Ð]
def Ě (nid:Nat) (h h':AS Blk):Prop:=∀j,j≠nid->lkB h j=.dead->lkB h' j=.dead
def Ě.refl (nid:Nat) (h:AS Blk):Ě nid h h:=fun _ _ hd=>hd
def Ě.upd {nid id:Nat} {h:AS Blk} (B:Blk) (b:id=nid\/lkB h id≠.dead):Ě nid h (ì h id B):=fun j c hd=>by
 rw[Ó]
 ·exact hd
 ·rintro rfl;rcases b with rfl|b
  ·exact c rfl
  ·exact b hd
def Ě.trans {nid:Nat} {h h' b:AS Blk} (d:Ě nid h h') (h2:Ě nid h' b):Ě nid h b:=fun j c hd=>h2 j c (d j c hd)
def Ě.upd2 {nid i j:Nat} {h:AS Blk} (A B:Blk) (hi:lkB h i≠.dead) (c:j=nid\/lkB h j≠.dead):Ě nid h (ì (ì h i A) j B):=fun m b hd=>by
 have d:m≠i:=fun e=>hi (by rw[<-e]; exact hd);have h2:m≠j:=fun e=>c.elim (fun q=>b (e.trans q)) fun q=>q (by rw[<-e]; exact hd);rw[Ó _ h2,Ó _ d];exact hd
def Ě.frz {nid:Nat} {h:AS Blk} (v:AV):Ě nid h (frz h v):=fun _ _ hd=>YR hd
def Ě.frzA {nid:Nat} {h:AS Blk} (ps:AS (Nat×AV)):Ě nid h (frzA h ps):=fun _ _ hd=>Km ps hd
def jI {h:AS Blk} {id:Nat} {B:Blk} (b:lkB h id=B) (c:B≠.dead):lkB h id≠.dead:=by rw[b]; exact c
def aiB {v:AV} {id:Nat} {h:AS Blk} {k u:Ty} {es:AS (Val k×Val u)} (b:lkB h id=.map k u es):lkB (frz h v) id=.map k u es:=by
 unfold frz; split
 ·exact Qp _ b
 ·exact YU b
def M4 {P:Program} {h h':AS Blk} {t:TypeId} {a v:AV} {nid:Nat} (b:ph P h t a v some=some h'):Ě nid h h':=by
 unfold ph at b
 (repeat' split at b)<;>first
  |(cases b; done)
  |(cases b; exact Ě.upd _ (.inr (jI ‹lkB h _=.cells _› (by simp))))
  |(cases b; exact Ě.upd _ (.inr (jI ‹lkB h _=.deep _ _ _› (by simp))))
  |(cases b; exact(Ě.frz _).trans (Ě.upd _ (.inr (jI ‹lkB (frz h _) _=.row _ _ _ _› (by simp)))))
def acl {P:Program} {S f:St} {o:Op} {nid:Nat} {eat:Bool} {v:AV} (e:opR P S nid eat o=some (v,f)):Ě nid S.h f.h:=by
 unfold opR opK at e;dsimp only at e
 (repeat' split at e)<;>first
  |(cases e; done)
  |(cases e; exact Ě.refl _ _)
  |(cases e; exact Ě.upd _ (.inl rfl))
  |(cases e; exact(Ě.frzA _).trans (Ě.upd _ (.inl rfl)))
  |(rw[rM] at e; obtain⟨c,b,h2⟩:=ġ e; cases h2; exact Ě.refl _ _)
  |(rw[xN] at e; obtain⟨c,b,h2⟩:=ġ e; cases h2; exact Ě.refl _ _)
  |(rw[AB] at e; obtain⟨c,b,h2⟩:=ġ e; cases h2; exact Ě.refl _ _)
  |(rw[oc] at e; obtain⟨c,b,h2⟩:=ġ e; cases h2; exact Ě.refl _ _)
  |(rw[oh] at e; obtain⟨c,b,h2⟩:=ġ e; cases h2; exact Ě.refl _ _)
  |(rw[xl] at e; obtain⟨c,b,h2⟩:=ġ e; cases h2; exact Ě.refl _ _)
  |(rw[oo] at e; obtain⟨c,b,h2⟩:=ġ e; cases h2; exact Ě.refl _ _)
  |(rw[iY] at e; obtain⟨c,b,h2⟩:=ġ e; cases h2; exact Ě.refl _ _)
  |(rw[iZ] at e; obtain⟨c,b,h2⟩:=ġ e; cases h2; exact Ě.refl _ _)
  |(rw[lG] at e; obtain⟨c,b,h2⟩:=ġ e; cases h2; exact Ě.refl _ _)
  |(rw[lE] at e; obtain⟨c,b,h2⟩:=ġ e; cases h2; exact Ě.refl _ _)
  |(rw[xg] at e; obtain⟨c,b,h2⟩:=ġ e; cases h2; exact Ě.refl _ _)
  |(rw[θ] at e; obtain⟨c,b,h2⟩:=ġ e; cases h2; exact Ě.refl _ _)
  |(rw[oa] at e; obtain⟨h',b,h2⟩:=ġ e; cases h2; exact M4 b)
  | (rw [oa] at e; obtain ⟨h', b, h2⟩ := ġ e; cases h2
     exact(Ě.upd _ (.inr (jI ‹lkB S.h _=.row _ _ _ _› (by simp)))).trans (M4 b))
  | (rw [wU] at e; obtain ⟨⟨c, h'⟩, b, h2⟩ := ġ e; cases h2
     unfold ox at b
     (repeat' split at b)<;>first
      |(cases b; done)
      |(cases b; exact Ě.refl _ _)
      |(cases b; exact Ě.upd _ (.inr (jI ‹lkB S.h _=.row _ _ _ _› (by simp)))))
  | (rw [tU] at e; obtain ⟨⟨c, h'⟩, b, h2⟩ := ġ e; cases h2
     unfold tV at b
     (repeat' split at b)<;>first
      |(cases b; done)
      |(cases b; exact Ě.upd _ (.inl rfl))
      |(cases b; exact Ě.upd _ (.inr (jI ‹lkB S.h _=.row _ _ _ _› (by simp)))))
  | (rw [Dp] at e; obtain ⟨⟨c, h'⟩, b, h2⟩ := ġ e; cases h2
     unfold UO at b
     (repeat' split at b)<;>first
      |(cases b; done)
      |(cases b; exact Ě.upd2 _ _ (jI ‹lkB S.h _=.row _ _ _ _› (by simp)) (.inl rfl))
      |(cases b; exact Ě.upd2 _ _ (jI ‹lkB S.h _=.deep _ _ _› (by simp)) (.inl rfl)))
  | (rw [Ds] at e; obtain ⟨⟨c, h'⟩, b, h2⟩ := ġ e; cases h2
     unfold QG at b
     split at b<;>try (cases b; done)
     split at b<;>try (cases b; done)
     split at b<;>try (cases b; done)
     rename_i d
     split at b<;>try (cases b; done)
     (repeat' split at b)<;>first
      |(cases b; done)
      |(cases b; exact Ě.upd2 _ _ (jI d (by simp)) (.inl rfl))
      |(cases b; exact Ě.upd2 _ _ (jI d (by simp)) (.inr (jI (by assumption) (by simp)))))
  | (rw [wR] at e; obtain ⟨⟨c, h'⟩, b, h2⟩ := ġ e; cases h2
     unfold AD at b
     (repeat' split at b)<;>first
      |(cases b; done)
      |(cases b; exact Ě.upd _ (.inl rfl)))
  | (rw [xH] at e; obtain ⟨h', b, h2⟩ := ġ e; cases h2
     unfold Dw at b
     (repeat' split at b)<;>first
      |(cases b; done)
      |(cases b; exact Ě.refl _ _)
      |(cases b; exact Ě.upd _ (.inr (jI ‹lkB S.h _=.row _ _ _ _› (by simp)))))
  | (rw [ω] at e; obtain ⟨q, b, h2⟩ := ġ e
     (repeat' split at h2)<;>first
      |(cases h2; done)
      |(cases h2; exact Ě.refl _ _))
  | (rw [jt] at e; obtain ⟨h', b, h2⟩ := ġ e; cases h2
     unfold Ť at b
     (repeat' split at b)<;>first
      |(cases b; done)
      |(cases b; exact Ě.upd _ (.inr (jI ‹lkB S.h _=.fns _› (by simp)))))
  | (rw [Bg] at e; obtain ⟨⟨c, h'⟩, b, h2⟩ := ġ e; cases h2
     unfold PB at b
     (repeat' split at b)<;>first
      |(cases b; done)
      |(cases b; exact Ě.refl _ _)
      |(cases b; exact Ě.upd _ (.inr (jI ‹lkB S.h _=.iter _ _› (by simp)))))
  | (rw [jr] at e; obtain ⟨h', b, h2⟩ := ġ e; cases h2
     unfold ţ at b
     (repeat' split at b)<;>first
      |(cases b; done)
      |(cases b; exact(Ě.frz _).trans (Ě.upd _ (.inr (jI (aiB ‹lkB S.h _=.map _ _ _›) (by simp))))))
end Go.Am
end

noncomputable section
namespace Go.Am
variable [ë] [Ð]
section
variable {ρ:Type} {ν ν':Nat->Value} {h h':AS Blk} {w w':World} {P:Program}
def Ev.same (d:∀id,lkB h' id=lkB h id) (c:w'.heap=w.heap) (i:w'.os=w.os) (h2:w'.tape=w.tape) (g:w'.output=w.output) (m:Nat):Ev m ν h w ν h' w' :=
 ⟨i,h2,g,by rw[c]; exact cJ _,fun b _ hb=>⟨by rw[c],fun⟨id,f,e⟩=>hb ⟨id,by rwa [d] at f,e⟩⟩,fun id _=>by rw[d]; exact Blk.next_refl _ _ _⟩
def HR.same (H:HR ν h w) (d:∀id,lkB h' id=lkB h id) (c:w'.heap=w.heap) (k:w'.os=w.os) (h2:w'.tape=w.tape) (g:w'.output=w.output):HR ν h' w':=by
 refine⟨fun id=>?_,fun i j b e f=>H.inj i j b (by rwa [d] at e) (by rwa [d] at f),fun b hb=>by rw[c]; exact H.ghlt b hb,fun id b e=>H.ghne id b (by rwa [d] at e),ë.keep _ _ H.glob (fun b _=>by rw[c]),fun b hb ⟨id,e,f⟩=>H.globL b hb ⟨id,by rwa [d] at e,f⟩⟩;rw[d];exact BR.ev (Ev.same d c k h2 g _) (fun b o hb _=>by rw[c]; exact hb) (fun b hb=>by rw[c]) rfl (fun b _ _ _=>by rw[c]) (H.blk id)
def Sim.same {S:St} {a:Act} (H:Sim ν S a w) (d:∀id,lkB h' id=lkB S.h id) (c:w'.heap=w.heap) (f:w'.os=w.os) (h2:w'.tape=w.tape) (e:w'.output=w.output):Sim ν {t:=S.t,h:=h'} a w' :=
 ⟨H.defers.keep (by rw[c]; exact cJ _) (fun b o hb _=>by rw[c]; exact hb),H.len,fun i=>(H.tmps i).ev (Ev.same d c f h2 e _),H.heap.same d c f h2 e⟩
def FP:∀(h:AS Blk) (d:Nat),h.length<=d->lkB h d=.dead
 |[],_,_=>rfl
 |x::xs,0,h=>by simp at h
 |x::xs,d+1,h=>by simpa[Qf,Qg,Qd] using FP xs d (by simpa using h)
def Qe:∀(h:AS Blk) (n id:Nat),lkB (h++List.replicate n .dead) id=lkB h id
 |[],0,_=>rfl
 |[],n+1,0=>rfl
 |[],n+1,id+1=>by simpa[List.replicate_succ,Qf,Qg,Qd] using Qe [] n id
 |x::xs,n,0=>rfl
 |x::xs,n,id+1=>by simpa[Qf,Qg,Qd] using Qe xs n id
abbrev fen:Fence:={Fence.wide with round:=Ð.Q}
def ZH (P:Program) (L:Nat) (call:AS Nat->Bool->Nat->AS AV->AS Blk->(AV->AS Blk->AN ρ)->AN ρ):Prop :=
 ∀path b g args h (K:AV->AS Blk->AN ρ) r,path.length=L->call path b g args h K=some r->∀ν w vals,HR ν h w->Ð.B<=w.heap.size->ò (VR ν h w) args vals ->
  (∃fn c,P.funcs[g]?=some fn/\fn.body=some c) /\
  CallsIn Fence.wide 0 P g vals.toArray w fun e w'=>∃ν' h' v u,e=.returned u/\VR ν' h' w' v u/\HR ν' h' w'/\Ev h.length ν h w ν' h' w'/\h.length<=h'.length/\(∀j,j<h.length->lkB h j=.dead->lkB h' j=.dead)/\K v h'=some r
def E7 (P:Program) (clone:Nat->Bool):Prop :=
 ∀g,clone g=true->∀fz S nid x v b,uw P g fz S nid x (fun v S=>some (v,S))=some (v,b)->∀ν w u,HR ν S.h w->VR ν S.h w x u->nid<S.h.length->lkB S.h nid=.dead ->
  (∃fn c,P.funcs[g]?=some fn/\fn.body=some c) /\
  CallsIn Fence.wide 0 P g #[u] w fun e w'=>∃ν' u',e=.returned u'/\VR ν' b.h w' v u'/\HR ν' b.h w'/\Ev S.h.length ν S.h w ν' b.h w'/\S.h.length<=b.h.length/\Ě nid S.h b.h/\b.t=S.t
def ES (P:Program) (g:Nat) (fz:Bool) (S:St) (nid:Nat) (x:AV) (K:AV->St->AN ρ):uw P g fz S nid x K=(uw P g fz S nid x fun v S=>some (v,S)).bind fun r=>K r.1 r.2:=by
 unfold uw; (repeat' split)<;>rfl
def Aft (m:Nat) (ν:Nat->Value) (h:AS Blk) (w:World) (K:St->AN ρ) (r:ρ) (c:Act) (w':World):Prop :=
 ∃ν' b,Sim ν' b c w'/\Ev m ν h w ν' b.h w'/\h.length<=b.h.length/\K b=some r
def Aft.trans {m f:Nat} {K:St->AN ρ} {r:ρ} {g:Act} {ν b:Nat->Value} {h c:AS Blk} {w d w':World} (e:Ev m ν h w b c d) (j:h.length<=c.length) (i:m<=f) (ha:Aft f b c d K r g w'):Aft m ν h w K r g w':=by
 obtain⟨ν',p,o,h2,l,k⟩:=ha;exact⟨ν',p,o,e.trans h2 i,dc j l,k⟩
def op_nid {S:St} {o:Op} {nid nid':Nat} {eat:Bool} {clone:Nat->Bool} (d:û clone o=false):opR P S nid eat o=opR P S nid' eat o:=by
 cases o<;>try first|rfl|(cases d; done)
 rename_i c;obtain⟨f,args,tys⟩:=c
 cases f<;>try rfl
 rename_i b
 cases b<;>first|(cases d; done)|rfl|(unfold opR opK; dsimp only; (repeat' split)<;>first|rfl|simp_all)
def YldP (P:Program) (y:YFun):Prop:=∃f:y.ty=Ð.T,∀(O X:Nat->Prop) (c:AS (Val Ð.T)) (v:Val Ð.T) (u:Value) (W:World),Ð.J O X c W->(∀b,O b->X b)->(∀b,X b->b<W.heap.size)->(c++[v] <+: qB (F:=fun t=>AS (Val t)) f y.all)->CR W X Ð.T v [u]->Ð.B<=W.heap.size ->
 YieldAt Fence.wide 0 P Ð.L #[u] W fun e d=>e=.returned (.bool (ygo y.stop (qB (F:=fun t=>AS (Val t)) f y.all) (c++[v])))/\d.os=W.os/\d.tape=W.tape/\d.output=W.output/\W.heap.size<=d.heap.size /\
  ∃us,(∀b,b<W.heap.size->¬O b->d.heap[b]?=W.heap[b]?/\¬ę (.agg us) b)/\(∀b,ę (.agg us) b->∃o,d.heap[b]?=some o/\Ie o=true)/\Ð.J (ę (.agg us)) (fun b=>(X b/\¬O b)\/ę (.agg us) b) (c++[v]) d
def kR (E:Env ρ):Prop:=∀y,E.yld=some y->YldP E.P y
def ū {E:Env ρ} (h:E.yld=none):kR E:=fun y e=>by rw[h] at e; cases e
def ahX {α:Type} {all l:AS α} {k:AN ρ} {r:ρ} (h:yg all l k=some r):l <+: all/\k=some r:=by
 unfold yg at h
 split at h
 ·exact⟨‹_›,h⟩
 ·cases h
def afr {t:Ty} {b:Bool} {all l:AS (Val t)} {k:AN ρ} {r:ρ} (h:ygf b all l k=some r):l <+: all/\k=some r:=by
 unfold ygf at h
 split at h
 ·exact ahX h
 ·split at h
  ·exact⟨XV ‹_›,h⟩
  ·cases h
def ZK {t:Ty} (b:t.isAgg=false) {a:AV} {v:Val t} (e:Ù t [a]=some v):a.isAgg=false/\a.isTup=false:=by
 cases t<;>first|(cases b; done)|(cases a<;>first|exact⟨rfl,rfl⟩|cases e)
def VC (h:AS Blk) {a:AV} (e:(ñ h a).isAgg=false/\(ñ h a).isTup=false):a.isAgg=false/\a.isTup=false:=by
 cases a<;>first|exact⟨rfl,rfl⟩|exact e
def abE {E:Env ρ} (hy:kR E) {x:AV} {u:Value} {K:AV->AS Blk->AN ρ} {r:ρ} (H:HR ν h w) (hv:VR ν h w x u) (hB:Ð.B<=w.heap.size) (e:yldK E h x K=some r) :
 YieldAt Fence.wide 0 E.P Ð.L #[u] w fun e w'=>∃b,e=.returned (.bool b)/\∃ν' h',HR ν' h' w'/\Ev h.length ν h w ν' h' w'/\h'.length=h.length/\(∀j,lkB h j=.dead->lkB h' j=.dead)/\K (.bool b) h'=some r:=by
 unfold yldK at e
 split at e<;>try (cases e; done)
 rename_i y hE
 split at e<;>try (cases e; done)
 rename_i R
 split at e<;>try (cases e; done)
 rename_i I
 split at e<;>try (cases e; done)
 rename_i v k
 split at e<;>try (cases e; done)
 rename_i t xs f
 split at e<;>try (cases e; done)
 rename_i he hq;clear hq;obtain⟨ty,all,stp⟩:=y;obtain⟨hT,hY⟩:=hy _ hE;have N:t=ty:=he;subst N;have S:t=Ð.T:=hT;subst S;obtain⟨m,hk⟩:=afr e;obtain⟨D,C⟩:=VC h (ZK R k);have G:=hv.one D C;obtain⟨U,g,_⟩:=Ko H x;have O:CR w (Av ν (o9 h x)) Ð.T v [u]:=Ĝ k ⟨Kn H G I,trivial⟩;have hb:=g.blk 0;rw[f] at hb;obtain⟨us0,h1,h2,h3,h4⟩:=hb;obtain⟨fn,tmps,assign,A,l,hR⟩:=hY _ _ xs v u w h4 (fun b hb=>.inl ⟨0,by rw[f]; rfl,hb⟩) (fun b hb=>g.ltA hb) m O hB;refine⟨fn,tmps,assign,A,l,hR.mono fun e' w' hw=>?_⟩;obtain⟨rfl,o1,o2,o3,o4,us,W,o6,o7⟩:=hw;refine⟨_,rfl,?_⟩
 have c:(lkB (o9 h x) 0).live=true:=by rw[f]; rfl
 have s:0<(o9 h x).length:=Ņ f (by simp);have d:∀b,b<w.heap.size->((lkB (o9 h x) 0).live=true->¬ę (ν 0) b)->w'.heap[b]?=w.heap[b]?:=fun b hb p=>(W b hb (p c)).1
 have Z:(Blk.acc Ð.T (xs++[v])).live=true->∀b,ę (.agg us) b->((lkB (o9 h x) 0).live=true/\ę (ν 0) b)\/w.heap.size<=b:=fun _ b hb=>by
  rcases dC b w.heap.size with J|M
  ·by_cases X:ę (ν 0) b
   ·exact .inl ⟨c,X⟩
   ·exact absurd hb (W b J X).2
  ·exact .inr M
 have z:=Ev.upd g (B:=.acc Ð.T (xs++[v])) (V:=.agg us) s o1 o2 o3 o4 d Z (by rw[f]; exact⟨_,rfl⟩)
 have H2:HR (í ν 0 (.agg us)) (ì (o9 h x) 0 (.acc Ð.T (xs++[v]))) w':=by
  refine HR.upd g s z d Z ⟨us,Í _ _ _,?_,rfl,?_⟩
  ·rw[Í]; exact o6
  ·rw[Í];refine Ð.st _ _ _ _ _ _ o7 ⟨rfl,rfl,rfl,cJ _,fun b _ p=>?_,fun b o hb _ _=>hb,fun b o hb _ _=>hb,fun _ _ _=>rfl⟩;rintro(⟨i,hi,hb⟩|Y)
   ·by_cases h0:i=0
    ·subst h0; rw[Í] at hb; exact p (.inr hb)
    ·rw[Ó _ h0] at hi;rw[ý _ _ h0] at hb;exact p (.inl ⟨.inl ⟨i,hi,hb⟩,fun q=>h0 (g.inj i 0 b hi c hb q)⟩)
   ·exact p (.inl ⟨.inr Y,fun q=>g.ghG 0 b c q Y⟩)
 refine⟨_,_,H2,U.trans z (by rw[lI]; exact cJ _),by rw[Ï,lI],fun j hj=>?_,hk⟩;have hd:lkB (o9 h x) j=.dead:=Kq hj;rw[Ó _ (fun q=>by rw[q,f] at hd; cases hd)];exact hd
def VI {E : Env ρ} {call : AS Nat -> Bool -> Nat -> AS AV -> AS Blk -> (AV -> AS Blk -> AN ρ) -> AN ρ} {L : Nat} (I : ZH E.P L call) (hP : ∀ (f : Nat) (fn : Func), E.P.funcs[f]? = some fn -> (fn.name == "runtime.NumGoroutine") = false)
 (B:E7 E.P E.clone) (N:kR E)
 {fid:Nat} {path:AS Nat} {y:Bool} {S:St} {a:Act} {nid:Nat} {o:Oper} {K:AV->St->AN ρ} {r:ρ} (hp:path.length=L) (H:Sim ν S a w) (hn:û E.clone o.op=true->nid<S.h.length/\lkB S.h nid=.dead)
 (e:jo E call fid path y S nid o K=some r) {next:Act->World->Prop} {Q:Exit->Act->World->Prop}
 (Y:∀(ν':Nat->Value) (w':World) (u:Value) (v:AV) (k:St),VR ν' k.h w' v u->HR ν' k.h w'->Ev S.h.length ν S.h w ν' k.h w'->S.h.length<=k.h.length->(∀j,j<S.h.length->j≠nid\/û E.clone o.op=false->lkB S.h j=.dead->lkB k.h j=.dead)->k.t=S.t->K v k=some r->next (a.put o.dst u) w') :
 o.wpIn fen 0 E.P a w next Q:=by
 refine⟨fun _ _=>trivial,?_⟩
 have hnd:∀c,o.op≠.defer c:=by
  intro c M;rw[iC] at e
  try simp only[Fs] at e
  split at e<;>try (cases e; done)
  split at e
  ·rename_i i;rw[M] at i; cases i
  ·rw[M] at e;cases e
 rw[Oper.semAt_eq _ _ _ hnd]
 have plain:∀v k,opR E.P S nid (KQ E y fid o) o.op=some (v,k)->K v k=some r->o.uponIn fen 0 E.P a next Q ((execOp a.eval o).run E.P w):=by
  intro v k z h2;obtain⟨ν',w',u,J,h4,h5,h6,h7,h8⟩:=afS (clone:=E.clone) H hn z
  have:=Y ν' w' u v k h4 h5 h6 (fV h7.symm) (fun j _ C hd=>by
   rcases C with C|hal
   ·exact acl z j C hd
   ·rw[op_nid (nid':=j+1) hal] at z
    exact acl z j (by omega) hd) h8 h2
  rcases J with J|⟨J,rfl⟩
  ·rw[J]; exact this
  ·rw[J]; exact this
 rw[iC] at e
 try simp only[Fs] at e
 split at e<;>try (cases e; done)
 split at e
 ·rename_i f args tys i
  split at e<;>try (cases e; done)
  rotate_left
  ·rename_i p
   split at e<;>try (cases e; done)
   rename_i x d
   have D:a.eval f=.func (.yield Ð.L) #[] #[]:=by
    have:=Ć H f;rw[p] at this;exact this
   obtain⟨fn,tmps,assign,X,T,hR⟩:=abE N H.heap (Ć H x) H.defers.bnd e
   have O:(execOp a.eval o).run E.P w=.ok (.round Ð.L fn tmps assign X) w:=by
    rw[<-T];unfold execOp;rw[i,arr1 d];simp[resolve,D,Deferred.ofValue,invoke,Sem.run_bind,Result.andThen_ok,callFunc,run_program]
   rw[O,Oper.uponIn_round];refine⟨fun p=>(by cases p),RoundIn.mono (show RoundIn fen 0 E.P _ _ _ _ _ _ _ from hR) fun e' w' R=>?_⟩;obtain⟨b,rfl,ν',h',g1,g2,g3,g4,g5⟩:=R;exact Y ν' w' (.bool b) (.bool b) {t:=S.t,h:=h'} rfl g1 g2 (fV g3.symm) (fun j _ _ hd=>g4 j hd) rfl g5
  rename_i g first W p;have V:=Ć H f;rw[p] at V;obtain⟨fs,cs,D,A,G⟩:=V
  split at e
  ·rename_i l
   split at e<;>try (cases e; done)
   rename_i x d;rw[ES] at e;obtain⟨⟨v,k⟩,z,h2⟩:=ġ e;simp only[cM] at l;obtain⟨l,U⟩:=l
   have hfg:f=.func g:=by
    cases f<;>try (cases U; done)
    simp only[ev] at p
    injection p with Z
    injection Z with Z
    rw[Z]
   subst hfg;obtain⟨hn1,hn2⟩:=hn (by rw[i]; exact l);obtain⟨⟨fn,c,s,m⟩,M⟩:=B g l _ S nid _ v k z ν w _ H.heap (Ć H x) hn1 hn2
   have O:(execOp a.eval o).run E.P w=.ok (.enter g #[a.eval x]) w:=by
    unfold execOp;rw[i,arr1 d];simp only[resolve,Act.eval,Deferred.ofValue,pure_bind,invoke,callFunc,Sem.run_bind,run_program,Result.andThen_ok,s,hP g fn s,m];simp only[Bool.false_eq_true,if_false,Option.isNone_some];show Result.ok (Next.enter g _) w=_;congr 2;apply Array.ext'
    cases x<;>simp[Act.eval]
   rw[O,Oper.uponIn_enter];refine⟨fun p=>(by cases p),M.mono fun e' w' R=>?_⟩;obtain⟨ν',u',rfl,g1,g2,g3,g4,g6,g5⟩:=R;exact Y ν' w' u' v k g1 g2 g3 g4 (fun j _ C hd=>g6 j (C.resolve_right (by rw[i]; exact fun p=>by rw[show û E.clone (.call ⟨.value (.func g),args,tys⟩)=E.clone g from rfl,l] at p; cases p)) hd) g5 h2
  ·rename_i l
   have d:ò (VR ν S.h w) (first++(args.toList.map (ev S.t)++W)) (fs.toList++(args.toList.map a.eval++cs.toList)) :=
    (A.mono fun _ _ q=>q.up.up).append ((ò.of_map fun x _=>Ć H x).append (G.mono fun _ _ q=>q.up.up))
   obtain⟨⟨fn,c,s,m⟩,M⟩:=I path y g _ _ _ r hp e ν w _ H.heap H.defers.bnd d
   have O:(execOp a.eval o).run E.P w=.ok (.enter g (fs.toList++(args.toList.map a.eval++cs.toList)).toArray) w:=by
    unfold execOp;rw[i];simp only[resolve,D,Deferred.ofValue,pure_bind,invoke,callFunc,Sem.run_bind,run_program,Result.andThen_ok,s,hP g fn s,m];simp only[Bool.false_eq_true,if_false,Option.isNone_some];show Result.ok (Next.enter g _) w=_;congr 2;apply Array.ext';simp
   rw[O,Oper.uponIn_enter];refine⟨fun p=>(by cases p),M.mono fun e' w' R=>?_⟩;obtain⟨ν',h',v,u,rfl,z,h2,J,h4,h6,h5⟩:=R;exact Y ν' w' u v {t:=S.t,h:=h'} z h2 J h4 (fun j C _ hd=>h6 j C hd) rfl h5
 ·rename_i op hne;rw[Pu] at e;obtain⟨⟨v,k⟩,z,h2⟩:=ġ e;exact plain v k z h2
def AF:∀(t:AS AV) (d:Nat),upd t d (lk t d)=t
 |[],_=>rfl
 |_::_,0=>rfl
 |x::t,d+1=>by simp[Rk,Rl,Rj,afl,afm,afk,AF t d]
def ahh (n nid:Nat) (h:AS Blk):Prop:=∀j,nid<=j->j<nid+n->j<h.length/\lkB h j=.dead
def mc {clone:Nat->Bool} {o:Oper} {os:AS Oper}:η clone (o::os)=bif û clone o.op then η clone os+1 else η clone os:=rfl
def Ot {all:AS Oper} {o:Oper} {j:Nat} {b:Bool}:∀{l:AS Oper},pY all l=true->o∈l->o.guard=some (j,b)->∃p d,all[j]?=some p/\p.dst=some d
 |[],_,c,_=>by cases c
 |x::l,f,c,g=>by
  simp only[pY,cM] at f;rcases cW.1 c with rfl|c
  ·have e:=f.1;rw[g] at e;simp only at e
   split at e
   ·rename_i p i;obtain⟨d,hd⟩:=gG.1 e;exact⟨p,d,i,hd⟩
   ·cases e
  ·exact Ot f.2 c g
def ZI {c:Array Oper} {tmps:Array Value} {j d:Nat} {p:Oper} (g:c.toList[j]?=some p) (hd:p.dst=some d) :
 (∀b,tmps.getD d undef=.bool b->yielded c tmps j=some b)/\(tmps.getD d undef=undef->yielded c tmps j=none):=by
 have e:c[j]?=some p:=by simpa using g
 constructor
 ·intro b hb;unfold yielded;rw[e];simp only[Option.bind_some,hd]
  cases f:tmps[d]? with
  |none=>simp[dR,f,undef] at hb
  |some v=>simp[dR,f] at hb; subst hb; rfl
 ·intro hb;unfold yielded;rw[e];simp only[Option.bind_some,hd]
  cases f:tmps[d]? with
  |none=>rfl
  |some v=>simp[dR,f] at hb; subst hb; rfl
def ov (E:Env ρ) (call:AS Nat->Bool->Nat->AS AV->AS Blk->(AV->AS Blk->AN ρ)->AN ρ) (fid:Nat) (path:AS Nat) (c:Bool) (all:AS Oper) (i nid:Nat) (o:Oper) (S:St) (K:St->AN ρ):AN ρ :=
 match o.guard with
 |none=>jo E call fid (path++[i]) c S nid o fun v S=>K {t:=õ S.t o.dst v,h:=S.h}
 |some (j,want)=>match lk S.t (nN all j) with
  |.bool b=>match b==want with
   |true=>jo E call fid (path++[i]) c S nid o fun v S=>K {t:=õ S.t o.dst v,h:=S.h}
   |false=>K {t:=õ S.t o.dst .und,h:=S.h}
  |.und=>K {t:=õ S.t o.dst .und,h:=S.h}
  |_=>none
def aci {E:Env ρ} {call:AS Nat->Bool->Nat->AS AV->AS Blk->(AV->AS Blk->AN ρ)->AN ρ} {fid:Nat} {path:AS Nat} {c:Bool} {all:AS Oper} {o:Oper} {os:AS Oper} {i nid:Nat} {S:St} {K:St->AN ρ} :
 Z2 E call fid path c all (o::os) i nid S K=ov E call fid path c all i nid o S fun m=>Z2 E call fid path c all os (i+1) (bif û E.clone o.op then nid+1 else nid) m K:=by
 simp only[Z2,ov]
 have f:∀d b,lk S.t d=.bool b->({t:=upd S.t d (.bool b),h:=S.h}:St)=S:=fun d b hb=>by rw[<-hb,AF]
 have e:∀d b,lk S.t d=.bool b->upd S.t d (.bool b)=S.t:=fun d b hb=>by rw[<-hb,AF]
 cases o.guard with
 |none=>rfl
 |some g =>
  obtain⟨j,k⟩:=g;simp only
  cases hb:lk S.t (nN all j)<;>try rfl
  rename_i b;have l:=f _ b hb;have h2:=e _ b hb
  cases b<;>cases k<;>simp only[l,h2]<;>rfl
def HH {E : Env ρ} {call : AS Nat -> Bool -> Nat -> AS AV -> AS Blk -> (AV -> AS Blk -> AN ρ) -> AN ρ} {L : Nat} (y : ZH E.P L call) (U : ∀ (f : Nat) (fn : Func), E.P.funcs[f]? = some fn -> (fn.name == "runtime.NumGoroutine") = false)
 (l:E7 E.P E.clone) (z:kR E) {fid:Nat} {path:AS Nat} {m:Bool} {c:Array Oper} (T:pY c.toList c.toList=true)
 {S:St} {a:Act} {nid i:Nat} {o:Oper} {K:St->AN ρ} {r:ρ} (D:path.length+1=L) (N:c[i]?=some o) (H:Sim ν S a w) (R:û E.clone o.op=true->nid<S.h.length/\lkB S.h nid=.dead)
 (e:ov E call fid path m c.toList i nid o S K=some r) {next:Act->World->Prop} {Q:Exit->Act->World->Prop}
 (O:∀(ν':Nat->Value) (w':World) (u:Value) (v:AV) (q:St),VR ν' q.h w' v u->HR ν' q.h w'->Ev S.h.length ν S.h w ν' q.h w'->S.h.length<=q.h.length->(∀j,j<S.h.length->j≠nid\/û E.clone o.op=false->lkB S.h j=.dead->lkB q.h j=.dead)->q.t=S.t ->
  K {t:=õ q.t o.dst v,h:=q.h}=some r->next (a.put o.dst u) w') :
 wpOpIn fen 0 E.P c Q i next a w:=by
 have run:jo E call fid (path++[i]) m S nid o (fun v S=>K {t:=õ S.t o.dst v,h:=S.h})=some r ->
  o.wpIn fen 0 E.P a w next Q:=fun J=>VI y U l z (by simpa using D) H R J O
 -- it is left out
 have skip:K {t:=õ S.t o.dst .und,h:=S.h}=some r->next (a.put o.dst undef) w :=
  fun J=>O ν w undef .und S rfl H.heap (Ev.refl _ _ _ _) (cJ _) (fun _ _ _ hd=>hd) rfl J
 have B:o∈c.toList:=by
  have:c.toList[i]?=some o:=by simpa using N
  exact cQ this
 unfold wpOpIn;rw[N];simp only[ov] at e
 split at e
 ·rename_i g
  have s:Region.wanted o (yielded c a.tmps)=true:=by simp[Region.wanted,g]
  simp only[s,if_true];exact run e
 ·rename_i j M g;obtain⟨p,d,D,hd⟩:=Ot T B g;obtain⟨I,G⟩:=ZI (tmps:=a.tmps) D hd
  have x:nN c.toList j=d:=by simp[nN,D,hd]
  rw[x] at e;have C:=H.tmps d
  split at e
  ·rename_i b hb;rw[hb] at C;have A:=I b C
   split at e
   ·rename_i k
    have s:Region.wanted o (yielded c a.tmps)=true:=by
     simp only[beq_iff_eq] at k;simp[Region.wanted,g,A,k]
    simp only[s,if_true];exact run e
   ·rename_i k
    have s:Region.wanted o (yielded c a.tmps)=false:=by
     simp only[beq_eq_false_iff_ne] at k;simpa[Region.wanted,g,A] using k
    simp only[s,dk,if_false];exact⟨fun _ _=>trivial,skip e⟩
  ·rename_i hb;rw[hb] at C
   have s:Region.wanted o (yielded c a.tmps)=false:=by simp[Region.wanted,g,G C]
   simp only[s,dk,if_false];exact⟨fun _ _=>trivial,skip e⟩
  ·cases e
def ach {E : Env ρ} {call : AS Nat -> Bool -> Nat -> AS AV -> AS Blk -> (AV -> AS Blk -> AN ρ) -> AN ρ} {L : Nat} (m : ZH E.P L call) (I : ∀ (f : Nat) (fn : Func), E.P.funcs[f]? = some fn -> (fn.name == "runtime.NumGoroutine") = false)
 (g:E7 E.P E.clone) (p:kR E) {fid:Nat} {path:AS Nat} {k:Bool} {c:Array Oper} (G:pY c.toList c.toList=true)
 {S:St} {a:Act} {nid i:Nat} {o:Oper} {os:AS Oper} {K:St->AN ρ} {r:ρ} (z:path.length+1=L) (A:c[i]?=some o) (H:Sim ν S a w) (x:ahh (η E.clone (o::os)) nid S.h)
 (e:Z2 E call fid path k c.toList (o::os) i nid S K=some r) {next:Act->World->Prop} {Q:Exit->Act->World->Prop}
 (C:∀(ν':Nat->Value) (w':World) (u:Value) (v:AV) (d:St),VR ν' d.h w' v u->HR ν' d.h w'->Ev S.h.length ν S.h w ν' d.h w'->S.h.length<=d.h.length->ahh (η E.clone os) (bif û E.clone o.op then nid+1 else nid) d.h->(∀j,j<S.h.length->j<nid->lkB S.h j=.dead->lkB d.h j=.dead)->d.t=S.t ->
  Z2 E call fid path k c.toList os (i+1) (bif û E.clone o.op then nid+1 else nid) {t:=õ d.t o.dst v,h:=d.h} K=some r->next (a.put o.dst u) w') :
 wpOpIn fen 0 E.P c Q i next a w:=by
 have s:û E.clone o.op=true->nid<S.h.length/\lkB S.h nid=.dead:=fun b=>x nid (cJ _) (by rw[mc,b]; simp)
 have l:ahh (η E.clone os) (bif û E.clone o.op then nid+1 else nid) S.h:=fun j q h2=>by
  cases b:û E.clone o.op with
  |true=>rw[b] at q h2; exact x j (by simp at q; omega) (by rw[mc,b]; simp at h2 ⊢; omega)
  |false=>rw[b] at q h2; exact x j (by simpa using q) (by rw[mc,b]; simpa using h2)
 rw[aci] at e;refine HH m I g p G z A H s e fun ν' w' u v d W V U T y R O=>C ν' w' u v d W V U T (fun j h2 N=>?_) (fun j D B hd=>y j D (.inl (by omega)) hd) R O;obtain⟨M,J⟩:=l j h2 N;refine⟨by omega,y j M ?_ J⟩
 cases b:û E.clone o.op with
 |true=>left; rw[b] at h2; simp at h2; omega
 |false=>exact .inr rfl
end
end Go.Am
end

noncomputable section
namespace Go.Am
variable [ë] [Ð]
section
variable {ρ:Type} {ν ν':Nat->Value} {h h':AS Blk} {w w':World} {P:Program}
def Dd (m:Nat) (h h':AS Blk):Prop:=∀j,j<m->lkB h j=.dead->lkB h' j=.dead
def Dd.refl (m:Nat) (h:AS Blk):Dd m h h:=fun _ _ hd=>hd
def Dd.trans {m c:Nat} {h h' b:AS Blk} (f:Dd m h h') (h2:Dd c h' b) (e:m<=c):Dd m h b:=fun j d hd=>h2 j (df d e) (f j d hd)
def Xu (m:Nat) (ν:Nat->Value) (h:AS Blk) (w:World) (K:Exit->St->AN ρ) (r:ρ) (e:Exit) (c:Act) (w':World):Prop :=
 ∃ν' b,Sim ν' b c w'/\Ev m ν h w ν' b.h w'/\m<=b.h.length/\Dd m h b.h/\K e b=some r
def Xu.trans {m g:Nat} {K:Exit->St->AN ρ} {r:ρ} {e:Exit} {i:Act} {b:Nat->Value} {c:AS Blk} {d:World} (ev:Ev m ν h w b c d) (hd:Dd m h c) (f:m<=g) (ha:Xu g b c d K r e i w'):Xu m ν h w K r e i w':=by
 obtain⟨ν',p,o,h2,l,k,j⟩:=ha;exact⟨ν',p,o,ev.trans h2 f,dc f l,hd.trans k f,j⟩
def afc (E:Env ρ) (call:AS Nat->Bool->Nat->AS AV->AS Blk->(AV->AS Blk->AN ρ)->AN ρ):Prop :=
 (∀path b g args h K,call path b g args h K=none) \/
 ((∀ f p, E.pure f = some p -> ∀ path b args h K, call path b f args h K = Pc (b && !E.fz f) p h args K) /\
  (∀f,E.pure f=none->E.sort f=true->∀path b args h K,call path b f args h K=match args with|[x]=>O5 h x K|_=>none) /\
  (∀f,E.pure f=none->E.sort f=false->E.compact f=true->∀path b args h K,call path b f args h K=match args with|[x]=>nW h x K|_=>none))
def NormOk (m:Nat) (N:St->AN St):Prop:=∀(S b:St) (ν:Nat->Value) (a:Act) (w:World),N S=some b->Sim ν S a w->m<=S.h.length->∃ν',Sim ν' b a w/\Ev m ν S.h w ν' b.h w/\m<=b.h.length/\Dd m S.h b.h
def ZD (E:Env ρ):Prop:=∀path fid rid m J,E.joins path fid rid m=some J->∃N,NormOk m N/\∀b rest,J b rest=b (fun S=>match N S with|some c=>rest c|none=>none)
def Λ {E:Env ρ} (h:E.joins=fun _ _ _ _=>none):ZD E:=by
 intro path fid rid m J e;rw[h] at e;cases e
structure jS (E:Env ρ) (L:Nat) (call:AS Nat->Bool->Nat->AS AV->AS Blk->(AV->AS Blk->AN ρ)->AN ρ):Prop where
 pureEq:afc E call
 call:ZH E.P L call
 plain : ∀ (f : Nat) (fn : Func), E.P.funcs[f]? = some fn -> (fn.name == "runtime.NumGoroutine") = false
 clone:E7 E.P E.clone
 joins:ZD E
 yld:kR E
def SJ {E:Env ρ} {call:AS Nat->Bool->Nat->AS AV->AS Blk->(AV->AS Blk->AN ρ)->AN ρ} {L:Nat} (g:jS E L call) {fid:Nat} {path:AS Nat} {l:Bool} {b:Array Oper} (A:path.length+1=L) (C:pY b.toList b.toList=true)
 {K:St->AN ρ} {r:ρ} {Q:Exit->Act->World->Prop} {m:Nat}:∀(os:AS Oper) (i nid:Nat) (S:St) (a:Act) (ν:Nat->Value) (w:World),(∀k,os[k]?=b[i+k]?)->Sim ν S a w->ahh (η E.clone os) nid S.h->m<=nid->m<=S.h.length ->
  Z2 E call fid path l b.toList os i nid S K=some r ->
  (∀ν' c G w',Sim ν' c G w'->Ev m ν S.h w ν' c.h w'->m<=c.h.length->Dd m S.h c.h->K c=some r->Q .normal G w') ->
  wpOpsIn fen 0 E.P b Q (List.range' i os.length) a w
 |[],i,nid,S,a,ν,w,_,H,_,_,s,e,x=>x ν S a w H (Ev.refl _ _ _ _) s (Dd.refl _ _) e
 |o::os,i,nid,S,a,ν,w,B,H,I,J,s,e,x=>by
  rw[cY,List.range'_succ,wpOpsIn_cons]
  have q:b[i]?=some o:=by have:=B 0; simpa using this.symm
  refine ach g.call g.plain g.clone g.yld C A q H I e fun ν' w' u v c U h2 D h4 T N R O=>?_;have f:=H.put D h2 o.dst U
  refine SJ g A C os (i+1) _ {t:=õ c.t o.dst v,h:=c.h} _ ν' w' (fun k=>by have:=B (k+1); rw[show i+1+k=i+(k+1) by omega]; simpa using this) (by rw[R]; exact f) T (by cases û E.clone o.op<;>simp<;>omega) (by simp; omega) O
   fun d z y p Z Y X W V=>x d z y p Z ((D.mono s).trans Y (cJ _)) X (fun j M hd=>W j M (N j (by omega) (by omega) hd)) V
def VM {E:Env ρ} {call:AS Nat->Bool->Nat->AS AV->AS Blk->(AV->AS Blk->AN ρ)->AN ρ} {L:Nat} (o:jS E L call) {fid rid:Nat} {path:AS Nat} {c:Array Oper} {S:St} {a:Act} {K:Exit->St->AN ρ} {r:ρ} {m:Nat} (g:path.length+1=L)
 (e:HO E call fid path false c.toList S (K .normal)=some r) (H:Sim ν S a w) (i:m<=S.h.length):(Code.region rid c false).wpIn fen 0 E.P (Xu m ν S.h w K r) a w:=by
 unfold HO at e
 split at e<;>try (cases e; done)
 rename_i f;simp only[gI,Bool.false_or,fc] at f;apply wpIn_region;have b:=fun id=>Qe S.h (η E.clone c.toList) id;have z:Sim ν {t:=S.t,h:=S.h++List.replicate (η E.clone c.toList) .dead} a w:=H.same b rfl rfl rfl rfl;have d:Ev m ν S.h w ν (S.h++List.replicate (η E.clone c.toList) .dead) w:=Ev.same b rfl rfl rfl rfl m
 have:=SJ (m:=m) (Q:=Xu m ν S.h w K r) o g f c.toList 0 S.h.length _ a ν w (fun k=>by simp) z (fun j p h2=>⟨by simp; omega,by simp only[b]; exact FP _ _ p⟩) i (by simp; omega) e
  (fun ν' y A w' x v u s q=>⟨ν',y,x,d.trans v (cJ _),u,fun j l hd=>s j l (by simp only[b]; exact hd),q⟩)
 rw[List.range_eq_range'];simpa using this
def nh (E:Env ρ) (L:Nat) (call:AS Nat->Bool->Nat->AS AV->AS Blk->(AV->AS Blk->AN ρ)->AN ρ):Prop :=
 ∀(fid rid:Nat) (path:AS Nat) (b:Array Oper) (S:St) (a:Act) (K:Exit->St->AN ρ) (r:ρ) (m:Nat) (ν:Nat->Value) (w:World),path.length+1=L ->
  HO E call fid path true b.toList S (K .normal)=some r->Sim ν S a w->m<=S.h.length->(Code.region rid b true).wpIn fen 0 E.P (Xu m ν S.h w K r) a w
def drawn:Code->Bool
 |.region _ _ d=>d
 |.seq a b=>drawn a||drawn b
 |.cond _ a b=>drawn a||drawn b
 |.block _ b=>drawn b
 |.scope b=>drawn b
 |_=>false
def noGoto (Q:Exit->Act->World->Prop):Exit->Act->World->Prop
 |.goto _,_,_=>False
 |e,a,w=>Q e a w
section
variable {F:Fence} {n:Nat} {P:Program} {Q:Exit->Act->World->Prop} {a:Act} {w:World}
def ld {b:Frame} {k:AS Item} {cs:AS Frame} {c:Code}:step P (lone (b.atR a (.code (.scope c)::k)) cs w)=.next (lone (b.atR a (.code c::.inScope c::k)) cs w) :=
 step_lone_go (by simp[stepG,stepG.exec,Frame.atR])
def O2 {b:Frame} {k:AS Item} {cs:AS Frame} {c:Code}:step P (lone (b.atR a (.inScope c::k)) cs w)=.next (lone (b.atR a k) cs w) :=
 step_lone_go (by simp[stepG,stepG.exec,Frame.atR])
def ZJ {c:Code} (h:c.wpIn F n P (noGoto Q) a w):(Code.scope c).wpIn F n P Q a w:=by
 intro b k cs j hb o;have h0:(lone (b.atR a (.code (.scope c)::k)) cs w).fenced P F:=fenced_calm hb o rfl;obtain⟨e,g,f,i,d⟩:=h b (.inScope c::k) cs j hb o
 cases e with
 |normal=>exact⟨.normal,g,f,i,.head h0 ld (StepsIn.trans d (.one (fenced_calm hb o rfl) O2))⟩
 |exit id =>
  have q:exitTo id (.inScope c::k)=exitTo id k:=by simp[exitTo]
  exact⟨.exit id,g,f,i,fun r p=>.head h0 ld (d.1 r (by rw[q]; exact p)),
   fun m p=>let ⟨k₁,s,h2⟩:=d.2 m (by rw[q]; exact p); ⟨k₁,s,.head h0 ld h2⟩⟩
 |goto l=>exact i.elim
 |ret=>exact⟨_,g,f,i,.of_steps (.one h0 ld) d⟩
 |panic ch=>exact⟨_,g,f,i,.of_steps (.one h0 ld) d⟩
 |outgrown=>exact⟨_,g,f,i,.of_steps (.one h0 ld) d⟩
end
def ng (E:Env ρ) (path:AS Nat) (fid bid:Nat):LI->Prop
 |.lp b=>∀(m:Nat) (S:St) (K:Exit->St->AN ρ) (r:ρ) (ν:Nat->Value) (a:Act) (w:World),E.loops path fid bid m S K=some r->Sim ν S a w->m<=S.h.length->(Code.loop b).wpIn fen 0 E.P (Xu m ν S.h w K r) a w
 |.rf g ps x y=>∀(m:Nat) (S:St) (K:Exit->St->AN ρ) (r:ρ) (ν:Nat->Value) (a:Act) (w:World),E.ranges path fid bid m (ev S.t g) S K=some r->Sim ν S a w->m<=S.h.length->(Code.rangeFunc g ps x y).wpIn fen 0 E.P (Xu m ν S.h w K r) a w
def rP {E:Env ρ} {call:AS Nat->Bool->Nat->AS AV->AS Blk->(AV->AS Blk->AN ρ)->AN ρ} {L:Nat} (R:jS E L call) {fid:Nat} {path:AS Nat} (O:path.length+2=L) {m:Nat} {r:ρ}:∀(c:Code) (bid:Nat) (S:St) (K:Exit->St->AN ρ) (ν:Nat->Value) (a:Act) (w:World),
 (drawn c=true->nh E L call)->(∀x∈Þ bid c,ng E path fid x.1 x.2)->goC E call fid path m bid c S K=some r->Sim ν S a w->m<=S.h.length->c.wpIn fen 0 E.P (Xu m ν S.h w K r) a w:=by
 intro c
 induction c with
 |skip=>exact fun bid S K ν a w _ _ e H p=>wpIn_skip ⟨ν,S,H,Ev.refl _ _ _ _,p,Dd.refl _ _,e⟩
 |label l=>exact fun bid S K ν a w _ _ e H p=>wpIn_label ⟨ν,S,H,Ev.refl _ _ _ _,p,Dd.refl _ _,e⟩
 |exit id=>exact fun bid S K ν a w _ _ e H p=>wpIn_exit ⟨ν,S,H,Ev.refl _ _ _ _,p,Dd.refl _ _,e⟩
 |ret=>exact fun bid S K ν a w _ _ e H p=>wpIn_ret ⟨ν,S,H,Ev.refl _ _ _ _,p,Dd.refl _ _,e⟩
 |region rid ops draw =>
  intro bid S K ν a w s _ e H p;simp only[goC,adB] at e
  cases draw with
  |false=>exact VM R (by simpa using O) e H p
  |true=>exact s rfl fid rid _ ops S a K r m ν w (by simpa using O) e H p
 |seq x y ihx ihy =>
  intro bid S K ν a w s q e H p;simp only[goC] at e
  cases u:E.joins path fid (Kj y) m with
  |none =>
   rw[u] at e;simp only at e;refine wpIn_seq (wpIn_mono (ihx bid S _ ν a w (fun h=>s (by simp[drawn,h])) (fun z t=>q z (dU _ t)) e H p) fun v A w' ha=>?_);obtain⟨ν',o,k,h2,i,f,d⟩:=ha
   cases v with
   |normal =>
    exact wpIn_mono (ihy bid o K ν' A w' (fun h=>s (by simp[drawn,h])) (fun z t=>q z (dI _ t)) d k i) fun I M G ha=>ha.trans h2 f (cJ _)
   |exit id=>exact⟨ν',o,k,h2,i,f,d⟩
   |goto l=>exact⟨ν',o,k,h2,i,f,d⟩
   |ret=>exact⟨ν',o,k,h2,i,f,d⟩
   |panic ch=>exact⟨ν',o,k,h2,i,f,d⟩
   |outgrown=>exact⟨ν',o,k,h2,i,f,d⟩
  |some J =>
   rw[u] at e;simp only at e;obtain⟨N,U,V⟩:=R.joins _ _ _ _ _ u;rw[V] at e;refine wpIn_seq (wpIn_mono (ihx bid S _ ν a w (fun h=>s (by simp[drawn,h])) (fun z t=>q z (dU _ t)) e H p) fun v A w' ha=>?_);obtain⟨ν',o,k,h2,i,f,d⟩:=ha
   cases v with
   |normal =>
    simp only at d
    split at d<;>try (cases d; done)
    rename_i D T;obtain⟨B,Z,Y,X,W⟩:=U o D ν' A w' T k i;exact wpIn_mono (ihy bid D K B A w' (fun h=>s (by simp[drawn,h])) (fun z t=>q z (dI _ t)) d Z X) fun I M G ha=>ha.trans (h2.trans Y (cJ _)) (f.trans W (cJ _)) (cJ _)
   |exit id=>exact⟨ν',o,k,h2,i,f,d⟩
   |goto l=>exact⟨ν',o,k,h2,i,f,d⟩
   |ret=>exact⟨ν',o,k,h2,i,f,d⟩
   |panic ch=>exact⟨ν',o,k,h2,i,f,d⟩
   |outgrown=>exact⟨ν',o,k,h2,i,f,d⟩
 |cond c x y ihx ihy =>
  intro bid S K ν a w s q e H p;simp only[goC] at e
  split at e<;>try (cases e; done)
  rename_i b hb;have C:=Ć H c;rw[hb] at C;have C:a.eval c=.bool b:=C
  split at e
  ·exact wpIn_cond_true C (ihx bid S K ν a w (fun h=>s (by simp[drawn,h])) (fun z t=>q z (dU _ t)) e H p)
  ·exact wpIn_cond_false C (ihy bid S K ν a w (fun h=>s (by simp[drawn,h])) (fun z t=>q z (dI _ t)) e H p)
 |block id b ih =>
  intro bid S K ν a w s q e H p;simp only[goC] at e;refine wpIn_block (wpIn_mono (ih id S _ ν a w (fun h=>s (by simpa[drawn] using h)) q e H p) fun v A w' ha=>?_);obtain⟨ν',o,k,h2,i,f,d⟩:=ha
  cases v with
  |exit j =>
   simp only[Exit.inBlock];simp only at d
   split at d
   ·rename_i u;rw[if_pos (eq_of_beq u)];exact⟨ν',o,k,h2,i,f,d⟩
   ·rename_i u
    have:¬j=id:=by simpa using u
    rw[if_neg this];exact⟨ν',o,k,h2,i,f,d⟩
  |normal=>exact⟨ν',o,k,h2,i,f,d⟩
  |goto l=>exact⟨ν',o,k,h2,i,f,d⟩
  |ret=>exact⟨ν',o,k,h2,i,f,d⟩
  |panic ch=>exact⟨ν',o,k,h2,i,f,d⟩
  |outgrown=>exact⟨ν',o,k,h2,i,f,d⟩
 |loop b ih =>
  intro bid S K ν a w s q e H p;simp only[goC] at e;exact q (bid,.lp b) (by simp[Þ]) m S K r ν a w e H p
 |rangeFunc g ps x y ihx ihy =>
  intro bid S K ν a w s q e H p;simp only[goC] at e;exact q (bid,.rf g ps x y) (by simp[Þ]) m S K r ν a w e H p
 |scope b ih =>
  intro bid S K ν a w s q e H p;simp only[goC] at e;refine ZJ (wpIn_mono (ih bid S _ ν a w (fun h=>s (by simpa[drawn] using h)) q e H p) fun v A w' ha=>?_);obtain⟨ν',o,k,h2,i,f,d⟩:=ha
  cases v with
  |goto l=>cases d
  |normal=>exact⟨ν',o,k,h2,i,f,d⟩
  |exit id=>exact⟨ν',o,k,h2,i,f,d⟩
  |ret=>exact⟨ν',o,k,h2,i,f,d⟩
  |panic ch=>exact⟨ν',o,k,h2,i,f,d⟩
  |outgrown=>exact⟨ν',o,k,h2,i,f,d⟩
 |_=>intro bid S K ν a w s q e H p; cases e
def kE {E:Env ρ} {call:AS Nat->Bool->Nat->AS AV->AS Blk->(AV->AS Blk->AN ρ)->AN ρ} {L:Nat} (g:jS E L call) (i:nh E L call) {fid:Nat} {path:AS Nat} (b:path.length+2=L) {m:Nat} {r:ρ} (c:Code) (bid:Nat) (S:St) (K:Exit->St->AN ρ) (ν:Nat->Value) (a:Act) (w:World)
 (f:∀x∈Þ bid c,ng E path fid x.1 x.2) (e:goC E call fid path m bid c S K=some r) (H:Sim ν S a w) (d:m<=S.h.length):c.wpIn fen 0 E.P (Xu m ν S.h w K r) a w :=
 rP g b c bid S K ν a w (fun _=>i) f e H d
end
end Go.Am
end

noncomputable section
namespace Go.Am
variable [ë] [Ð]
section
variable {ρ:Type} {ν ν':Nat->Value} {h h':AS Blk} {w w':World} {P:Program}
def afa:Prop:=∀(T:Tpl) (pin:Nat) (cs vs:AS Ty) (S:St) (p:Val (tyL cs)) (v:Val (tyL vs)) (ν:Nat->Value) (a:Act) (w:World),pn T pin cs vs S=some (p,v)->Sim ν S a w ->
 ∃ν',Sim ν' (ą T cs vs p v) a w/\Ev pin ν S.h w ν' (ą T cs vs p v).h w/\pin<=(ą T cs vs p v).h.length/\Dd pin S.h (ą T cs vs p v).h
def Oy:∀(l:AS (Exit×Tpl×AS Ty)) (e:Exit) (i j:Nat),ago l e i=some j->∃x,i<=j/\l[j-i]?=some x/\G7 x.1 e=true
 |[],_,_,_,h=>by cases h
 |x::l,e,i,j,h=>by
  unfold ago at h
  split at h
  ·rename_i b;cases h;exact⟨x,cJ _,by simp,b⟩
  ·obtain⟨y,d,h2,c⟩:=Oy l e (i+1) j h;refine⟨y,by omega,?_,c⟩;rw[show j-i=(j-(i+1))+1 by omega];simpa using h2
def VH {a b:Exit} (h:G7 a b=true):a=b:=by
 unfold G7 at h
 split at h
 ·rw[eq_of_beq h]
 ·rfl
 ·cases h
def af8 [LC] (Y:afa) {E:Env ρ} {call:AS Nat->Bool->Nat->AS AV->AS Blk->(AV->AS Blk->AN ρ)->AN ρ} {N:Nat} (hE:jS E N call) (hD:nh E N call) {fid bid:Nat} {path:AS Nat} (G:path.length+2=N) {b:Code}
 (X:∀x∈Þ bid b,ng E path fid x.1 x.2) (L:Æ)
 (bF:Val (tyL L.cs)->Val (tyL L.vs)->(Val (tyL L.vs)->AN ρ)->((i:Nat)->Val (tyL (L.zs i))->AN ρ)->AN ρ)
 (law:∀p v B kx,goC E call fid path L.pin bid b (ą L.head L.cs L.vs p v) (O3 L B kx)=bF p v (B p) (fun i=>kx i p)) {m:Nat} {S:St} {K:Exit->St->AN ρ} {r:ρ} {ν:Nat->Value} {a:Act} {w:World} (e:VJ L bF m S K=some r) (H:Sim ν S a w) (hm:m<=S.h.length):(Code.loop b).wpIn fen 0 E.P (Xu m ν S.h w K r) a w:=by
 unfold VJ at e
 split at e<;>try (cases e; done)
 rename_i c;have c:m<=L.pin:=eA c
 split at e<;>try (cases e; done)
 rename_i p v u;obtain⟨n,hn⟩:=aaw e;obtain⟨d,H1,O,J,T⟩:=Y _ _ _ _ _ _ _ ν a w u H;apply wpIn_loop_rounds n
 have V:∀(n:Nat) (p:Val (tyL L.cs)) (v:Val (tyL L.vs)) (d:Nat->Value) (o:Act) (f:World),iter (fun v B=>bF p v B fun i z=>K (L.xk i) (ą (L.tpl i) L.cs (L.zs i) p z)) n v=some r ->
  Sim d (ą L.head L.cs L.vs p v) o f->Ev m ν S.h w d (ą L.head L.cs L.vs p v).h f->L.pin<=(ą L.head L.cs L.vs p v).h.length->Dd m S.h (ą L.head L.cs L.vs p v).h ->
  Code.roundsIn fen 0 E.P b (Xu m ν S.h w K r) n o f:=by
  intro n
  induction n with
  |zero=>intro p v d o f e; cases e
  |succ n ih =>
   intro p v d o f e H1 O J T;rw[roundsIn_succ];have hl:=law p v (fun p v=>iter (fun v B=>bF p v B fun i z=>K (L.xk i) (ą (L.tpl i) L.cs (L.zs i) p z)) n v) (fun i p z=>K (L.xk i) (ą (L.tpl i) L.cs (L.zs i) p z))
   have e':goC E call fid path L.pin bid b (ą L.head L.cs L.vs p v) (O3 L (fun p v=>iter (fun v B=>bF p v B fun i z=>K (L.xk i) (ą (L.tpl i) L.cs (L.zs i) p z)) n v) (fun i p z=>K (L.xk i) (ą (L.tpl i) L.cs (L.zs i) p z)))=some r:=by
    rw[hl]; exact e
   refine wpIn_mono (kE hE hD G b bid _ _ d o f X e' H1 J) fun x t k ha=>?_;obtain⟨s,A,H2,Z,hp2,dd2,g⟩:=ha;have C:Ev m ν S.h w s A.h k:=O.trans Z c;have D:Dd m S.h A.h:=T.trans dd2 c
   have out:∀x,x≠.normal->O3 L (fun p v=>iter (fun v B=>bF p v B fun i z=>K (L.xk i) (ą (L.tpl i) L.cs (L.zs i) p z)) n v) (fun i p z=>K (L.xk i) (ą (L.tpl i) L.cs (L.zs i) p z)) x A=some r->Xu m ν S.h w K r x t k:=by
    intro x hx g;unfold O3 at g
    split at g
    ·exact absurd rfl hx
    ·split at g<;>try (cases g; done)
     rename_i i hi
     split at g<;>try (cases g; done)
     rename_i U z u;obtain⟨y,_,h1,h2⟩:=Oy _ _ _ _ hi
     have W:L.xk i=x:=by
      have:L.exits[i]?=some y:=by simpa using h1
      unfold Æ.xk;rw[this];exact VH h2
     obtain⟨q,H3,M,I,R⟩:=Y _ _ _ _ _ _ _ s t k u H2;have g:K (L.xk i) (ą (L.tpl i) L.cs (L.zs i) U z)=some r:=g;rw[W] at g;exact⟨q,_,H3,C.trans M c,dc c I,D.trans R c,g⟩
   cases x with
   |normal =>
    simp only[O3] at g
    split at g<;>try (cases g; done)
    rename_i U v' u;obtain⟨q,H3,M,I,R⟩:=Y _ _ _ _ _ _ _ s t k u H2;exact ih U v' q t k g H3 (C.trans M c) I (D.trans R c)
   |exit id=>exact out _ (by simp) g
   |ret=>exact out _ (by simp) g
   |goto l=>exact out _ (by simp) g
   |panic ch=>exact out _ (by simp) g
   |outgrown=>exact out _ (by simp) g
 exact V n p v d a w hn H1 (O.mono c) J (fun j hj hd=>T j (by omega) hd)
end
end Go.Am
end
