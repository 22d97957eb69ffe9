/- lemmas -/
import Derived.Test.YtbiecdpaididoaaGreatDoorAmC
import Derived.Shelf.Slices.In.SortAlone
import Derived.Shelf.Slices.In.CompactI
import Derived.Sort.Grow
import Derived.Lib.RowBridge
import Derived.Shelf.Slices.In.SortNone
set_option linter.all false
noncomputable section
namespace Go.Am
variable [Globs] [Í]
open Go.Sort Go.Shelf Go.Proofs
section
variable {ρ:Type} {ν:Nat->Value} {h:NO Blk} {w:World} {P:Program} {r:Ren}
omit [Í] in
def yw {L:NO FuncId} {n:Nat} {f:FuncId} {a:Array Value} {R:Ending->World->Prop} (b:∀D,CallsIn (Fence.list L (some D)) n P f a w R):CallsIn Fence.wide 0 P f a w R :=
 callsIn_wide.2 fun cs=>by
  obtain⟨_,c⟩:=b (cs.length+1+n)
  obtain⟨e,w',g,r,s,x⟩:=c cs fun d hd=>by cases hd; exact bE _
  exact⟨e,w',g,r,s.comes,x⟩
omit [Í] in
def NV {b off:Nat} {c:Array Value} {e:TypeId} {d:Array Int} {n:Nat} {os:Array Obj} (i:w.heap[b]?=some (.cells c e (0,0))) :
 (∀k,k<(w.setRow b (putCells (Value.int .i64) off d c)).heap.size->(grow (putRow (Value.int .i64) (Sort.ahead w n) b off d) os).heap[k]?=(w.setRow b (putCells (Value.int .i64) off d c)).heap[k]?) /\
  (w.setRow b (putCells (Value.int .i64) off d c)).heap.size<=(grow (putRow (Value.int .i64) (Sort.ahead w n) b off d) os).heap.size:=by
 have f:(w.setRow b (putCells (Value.int .i64) off d c)).heap.size=w.heap.size:=by simp[World.setRow]
 constructor
 ·intro k g;rw[f] at g
  have j:(grow (putRow (Value.int .i64) (Sort.ahead w n) b off d) os).heap[k]?=(putRow (Value.int .i64) (Sort.ahead w n) b off d).heap[k]?:=by
   simp only[grow];rw[Array.getElem?_append_left];simpa[putRow,mapBlock,Sort.ahead] using g
  rw[j]
  by_cases a:k=b
  ·subst a;rw[setRow_heap w k c _ e _ i];simp[putRow,mapBlock,Sort.ahead,Array.getElem?_modify,i,onCells]
  ·rw[setRow_other w b k _ a];simp[putRow,mapBlock,Sort.ahead,Array.getElem?_modify,Ne.symm a]
 ·rw[f];simp[grow,putRow,mapBlock,Sort.ahead]
omit [Í] in
def Zc {off:Nat} {c:Array Value} {d:Array Int} {k:Nat} (a:off<=k) (hd:k<off+d.size) (b:k<c.size):(putCells (Value.int .i64) off d c)[k]?=some (.int .i64 d[k-off]!):=by
 simp[putCells,Array.getElem?_mapIdx,b,a,hd]
def Ps (H:HR ν h w) {id g g' b off cap:Nat} {xs xs':NO Int} {d:Array Int} {c:Array Value} {e:TypeId} {n:Nat} {os:Array Obj} (D:lkB h id=.row (.int .i64) g false (xs:NO (Val (.int .i64)))) (a:ν id=.slice (some ⟨b,off,none⟩) xs.length cap)
 (z:w.heap[b]?=some (.cells c e (0,0))) (l:off+cap<=c.size) (m:xs'.length<=cap) (k:g<g'\/(g=g'/\xs'.length=xs.length)) (hd:d.size<=cap) (C:∀(i:Nat) (x:Int),xs'[i]?=some x->d[i]?=some x) :
 Ev h.length ν h w (ç ν id (.slice (some ⟨b,off,none⟩) xs'.length cap)) (å h id (.row (.int .i64) g' false (xs':NO (Val (.int .i64))))) (grow (putRow (Value.int .i64) (Sort.ahead w n) b off d) os) /\
  HR (ç ν id (.slice (some ⟨b,off,none⟩) xs'.length cap)) (å h id (.row (.int .i64) g' false (xs':NO (Val (.int .i64))))) (grow (putRow (Value.int .i64) (Sort.ahead w n) b off d) os):=by
 have u:(putCells (Value.int .i64) off d c).size=c.size:=by simp[putCells]
 obtain⟨ev,F⟩:=Io (t:=.int .i64) (xs:=(xs:NO (Val (.int .i64)))) (xs':=(xs':NO (Val (.int .i64)))) (g':=g') (o':=off) (cap':=cap) (c':=putCells (Value.int .i64) off d c) H D (by rw[a]; rfl) z m (by rw[u]; simpa[Ty.size] using l)
  (by
   rcases k with k|⟨k,f⟩
   ·exact .inl k
   ·exact .inr ⟨k,by rw[a,f],f⟩) (fun i x hi=>by
   have s:=C i x hi;obtain⟨q,p⟩:=dj.1 s;refine⟨[.int .i64 x],rfl,fun j v o=>?_⟩
   cases j with
   |zero =>
    simp only[dg,Option.some.injEq] at o;subst o;simp only[Ty.size,d8,dU];rw[Zc (by omega) (by omega) (by omega),Nat.add_sub_cancel_left,getElem!_pos d i q,p]
   |succ j=>simp at o)
 obtain⟨B,A⟩:=NV (n:=n) (os:=os) (off:=off) (d:=d) z;obtain⟨y,E⟩:=F.grow B A rfl rfl rfl h.length;exact⟨ev.trans y (bE _),E⟩
def My (H:HR ν h w) {id g b off cap:Nat} {xs:NO Int} {c:Array Value} {e:TypeId} (q:lkB h id=.row (.int .i64) g false (xs:NO (Val (.int .i64)))) (f:ν id=.slice (some ⟨b,off,none⟩) xs.length cap) (t:w.heap[b]?=some (.cells c e (0,0))) :
 Holds (Value.int .i64) w b off xs.toArray:=by
 have l:=H.blk id;rw[q] at l;obtain⟨base,cap',i,z,d⟩:=l
 rw[f] at i; injection i with v A u; subst v; subst u
 intro j s
 have a:j<xs.length:=by simpa using s
 refine⟨?_,by simp[World.frozen?,t]⟩;rcases d with⟨d,_⟩|⟨C,k,c',B,p,y,x,o⟩
 ·cases d
 ·cases p;obtain⟨us,n,m⟩:=o j (xs[j]'a) (bG a);have h0:us=[.int .i64 (xs[j]'a)]:=n;subst h0;have:=m 0 _ rfl;simp only[Ty.size,d8,dU] at this;rw[this];simp[getElem!_pos,a]
def Ss (L:Lays2.n20 P r) {x:AV} {K:AV->NO Blk->Nm ρ} {q:ρ} (e:jX h x K=some q) (H:HR ν h w) {u:Value} (G:VR ν h w x u) (hb:∃c,(Body2.n20 r).body=some c):yv P (r.f 20) ν h w [u] K q:=by
 refine⟨⟨_,_,L.f20,hb.choose_spec⟩,?_⟩;unfold jX at e
 split at e<;>try (cases e; done)
 ·rename_i id g
  split at e<;>try (cases e; done)
  rename_i ty g' xs o
  split at e<;>try (cases e; done)
  rename_i p
  have p:g=g':=by simpa using p
  subst p
  split at e<;>try (cases e; done)
  rename_i S _;subst S
  split at e<;>try (cases e; done)
  rename_i E;simp only[Ü,decide_eq_true_eq] at E;obtain⟨ho,t2,g2,Y,N,v,T,A⟩:=G;rw[o] at v; cases v;have z:=A rfl;have J:=H.blk id;rw[o] at J;obtain⟨base,cap,y,R,Q⟩:=J;have m:id<h.length:=Ģ o (by simp)
  have l:∀B,∀j,j<h.length->lkB h j=.dead->lkB (å h id B) j=.dead:=fun B j _ hd=>by
   rw[Ì]
   ·exact hd
   ·rintro rfl; rw[o] at hd; cases hd
  rcases Q with⟨rfl,rfl⟩|⟨b,off,c,e',rfl,F,O,q6⟩
  ·have t:xs=[]:=bT.1 (by omega);subst t
   have C:u=.slice none 0 0:=by rw[z,y]; rfl
   subst C;refine(yw fun D=>AnyS.slices_Compact_int_empty_in L D none 0 w).mono fun M w' s=>?_;obtain⟨rfl,rfl⟩:=s
   have I:(Blk.row (.int .i64) (g+1) false ([]:NO (Val (.int .i64)))).live=true->∀k,Ċ (Value.slice none 0 0) k->((lkB h id).live=true/\Ċ (ν id) k)\/w'.heap.size<=k:=fun _ k U=>by cases U
   have ev:=Ev.upd H (B:=.row (.int .i64) (g+1) false ([]:NO (Val (.int .i64)))) (V:=.slice none 0 0) (w':=w') m rfl rfl rfl (bE _) (fun _ _ _=>rfl) I (by
    rw[o]; exact⟨g+1,false,_,rfl,eD _,fun hf=>by omega⟩)
   have Z:=HR.upd H m ev (fun _ _ _=>rfl) I ⟨none,0,Ê _ _ _,bE _,.inl ⟨rfl,rfl⟩⟩;exact⟨_,_,_,_,rfl,qi m rfl,Z,ev,by rw[Î]; exact bE _,l _,e⟩
  ·subst z;rw[y];have W:=My H o y F;have X:=Lib.compact_length_le (xs:NO Int);refine(yw fun D=>AnyS.slices_Compact_int_in L D b off cap xs w W (by omega) R).mono fun M w' s=>?_;obtain⟨rfl,n,rfl⟩:=s
   have a:=Ps (n:=n) (os:=#[]) (g':=g+1) (xs':=Lib.compact (xs:NO Int)) (d:=(Lib.compact (xs:NO Int)++List.replicate ((xs:NO Int).length-(Lib.compact (xs:NO Int)).length) 0).toArray) H o y F
    (by simpa[Ty.size] using O) (by omega) (.inl (fA _)) (by simp; omega) (fun i x hi=>by
     have:=(bN.1 hi).1;simp only[cQ];rw[fe this]
     exact hi)
   rw[grow_empty] at a;exact⟨_,_,_,_,rfl,qi m rfl,a.2,a.1,by rw[Î]; exact bE _,l _,e⟩
 ·have z:u=.slice none 0 0:=G;subst z;refine(yw fun D=>AnyS.slices_Compact_int_empty_in L D none 0 w).mono fun M w' s=>?_;obtain⟨rfl,rfl⟩:=s;exact⟨ν,h,.nils,_,rfl,rfl,H,Ev.refl _ _ _ _,bE _,fun _ _ hd=>hd,e⟩
end
end Go.Am
end

noncomputable section
namespace Go.Am
variable [Globs] [Í]
open Go.Sort Go.Shelf Go.Proofs
section
variable {ρ:Type} {ν:Nat->Value} {h:NO Blk} {w:World} {P:Program} {r:Ren}
def Y6 (L:Lays.n189 P r) {x:AV} {K:AV->NO Blk->Nm ρ} {q:ρ} (e:Il h x K=some q) (H:HR ν h w) {u:Value} (M:VR ν h w x u) (hb:∃c,(Body.n189 r).body=some c):yv P (r.f 189) ν h w [u] K q:=by
 refine⟨⟨_,_,L.f189,hb.choose_spec⟩,?_⟩;have a:∀{ν:Nat->Value} {h:NO Blk} {w:World},VR ν h w (.tup []) (.tuple #[]):=⟨#[],rfl,trivial⟩;unfold Il at e
 split at e<;>try (cases e; done)
 ·rename_i id g
  split at e<;>try (cases e; done)
  rename_i ty g' xs s
  split at e<;>try (cases e; done)
  rename_i t
  have t:g=g':=by simpa using t
  subst t
  split at e<;>try (cases e; done)
  rename_i W _;subst W
  split at e<;>try (cases e; done)
  rename_i J;simp only[Ü,decide_eq_true_eq] at J;obtain⟨ho,t2,g2,fz2,R,A,X,G⟩:=M;rw[s] at A; cases A;have E:=G rfl;have O:=H.blk id;rw[s] at O;obtain⟨base,cap,v,U,T⟩:=O;have C:id<h.length:=Ģ s (by simp)
  have m:∀B,∀j,j<h.length->lkB h j=.dead->lkB (å h id B) j=.dead:=fun B j _ hd=>by
   rw[Ì]
   ·exact hd
   ·rintro rfl; rw[s] at hd; cases hd
  have p:(vP (xs:NO Int)).length=(xs:NO Int).length:=List.length_mergeSort _;rcases T with⟨rfl,rfl⟩|⟨b,off,c,e',rfl,F,S,q6⟩
  ·have z:xs=[]:=bT.1 (by omega);subst z
   have I:u=.slice none 0 0:=by rw[E,v]; rfl
   subst I;refine(yw fun D=>AnyS.slices_Sort_int_none_alone L D none 0 w).mono fun Q w' y=>?_;obtain⟨rfl,rfl⟩:=y
   have N:(Blk.row (.int .i64) g false ([]:NO (Val (.int .i64)))).live=true->∀k,Ċ (Value.slice none 0 0) k->((lkB h id).live=true/\Ċ (ν id) k)\/w'.heap.size<=k:=fun _ k Y=>by cases Y
   have ev:=Ev.upd H (B:=.row (.int .i64) g false ([]:NO (Val (.int .i64)))) (V:=.slice none 0 0) (w':=w') C rfl rfl rfl (bE _) (fun _ _ _=>rfl) N (by
    rw[s]; exact⟨g,false,_,rfl,bE _,fun _=>⟨by rw[Ê,v]; rfl,rfl⟩⟩)
   have H':=HR.upd H C ev (fun _ _ _=>rfl) N ⟨none,0,Ê _ _ _,bE _,.inl ⟨rfl,rfl⟩⟩
   have h0:vP ([]:NO Int)=[]:=by simp[vP]
   exact⟨_,_,_,_,rfl,a,H',ev,by rw[Î]; exact bE _,m _,(congrArg (fun l:NO Int=>K (.tup []) (å h id (.row (.int .i64) g false (l:NO (Val (.int .i64)))))) h0.symm).trans e⟩
  ·subst E;rw[v];have Z:=My H s v F;refine(yw fun D=>AnyS.slices_Sort_int_alone L D b off cap xs w Z (à F) (by omega)).mono fun Q w' y=>?_;obtain⟨rfl,n,os,rfl⟩:=y
   have o:=Ps (n:=n) (os:=os) (g':=g) (xs':=vP (xs:NO Int)) (d:=(vP (xs:NO Int)).toArray) H s v F
    (by simpa[Ty.size] using S) (by omega) (.inr ⟨rfl,p⟩) (by simp[p]; exact U) (fun i x hi=>by simpa using hi)
   exact⟨_,_,_,_,rfl,a,o.2,o.1,by rw[Î]; exact bE _,m _,e⟩
 ·have E:u=.slice none 0 0:=M;subst E;refine(yw fun D=>AnyS.slices_Sort_int_none_alone L D none 0 w).mono fun Q w' y=>?_;obtain⟨rfl,rfl⟩:=y;exact⟨ν,h,.tup [],_,rfl,a,H,Ev.refl _ _ _ _,bE _,fun _ _ hd=>hd,e⟩
end
end Go.Am
end
