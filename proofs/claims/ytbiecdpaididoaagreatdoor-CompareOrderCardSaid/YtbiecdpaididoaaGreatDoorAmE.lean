/- lemmas -/
import Derived.Test.YtbiecdpaididoaaGreatDoorAmC
import Derived.Shelf.Slices.In.SortAlone
import Derived.Shelf.Slices.In.CompactI
import Derived.Sort.Grow
import Derived.Lib.RowBridge
import Derived.Shelf.Slices.In.SortNone
set_option linter.all false
noncomputable section
namespace Go.Am
variable [Globs] [É]
open Go.Sort Go.Shelf Go.Proofs
section
variable {ρ:Type} {ν:Nat->Value} {h:AS Blk} {w:World} {P:Program} {r:Ren}
omit [É] in
def uD {L:AS FuncId} {n:Nat} {f:FuncId} {a:Array Value} {R:Ending->World->Prop} (b:∀D,CallsIn (Fence.list L (some D)) n P f a w R):CallsIn Fence.wide 0 P f a w R :=
 callsIn_wide.2 fun cs=>by
  obtain⟨_,c⟩:=b (cs.length+1+n)
  obtain⟨e,w',g,r,s,x⟩:=c cs fun d hd=>by cases hd; exact bt _
  exact⟨e,w',g,r,s.comes,x⟩
omit [É] in
def G0 {b off:Nat} {c:Array Value} {e:TypeId} {d:Array Int} {n:Nat} {os:Array Obj} (i:w.heap[b]?=some (.cells c e (0,0))) :
 (∀k,k<(w.setRow b (putCells (Value.int .i64) off d c)).heap.size->(grow (putRow (Value.int .i64) (Sort.ahead w n) b off d) os).heap[k]?=(w.setRow b (putCells (Value.int .i64) off d c)).heap[k]?) /\
  (w.setRow b (putCells (Value.int .i64) off d c)).heap.size<=(grow (putRow (Value.int .i64) (Sort.ahead w n) b off d) os).heap.size:=by
 have f:(w.setRow b (putCells (Value.int .i64) off d c)).heap.size=w.heap.size:=by simp[World.setRow]
 constructor
 ·intro k g;rw[f] at g
  have j:(grow (putRow (Value.int .i64) (Sort.ahead w n) b off d) os).heap[k]?=(putRow (Value.int .i64) (Sort.ahead w n) b off d).heap[k]?:=by
   simp only[grow];rw[Array.getElem?_append_left];simpa[putRow,mapBlock,Sort.ahead] using g
  rw[j]
  by_cases a:k=b
  ·subst a;rw[setRow_heap w k c _ e _ i];simp[putRow,mapBlock,Sort.ahead,Array.getElem?_modify,i,onCells]
  ·rw[setRow_other w b k _ a];simp[putRow,mapBlock,Sort.ahead,Array.getElem?_modify,Ne.symm a]
 ·rw[f];simp[grow,putRow,mapBlock,Sort.ahead]
omit [É] in
def Rc {off:Nat} {c:Array Value} {d:Array Int} {k:Nat} (a:off<=k) (hd:k<off+d.size) (b:k<c.size):(putCells (Value.int .i64) off d c)[k]?=some (.int .i64 d[k-off]!):=by
 simp[putCells,Array.getElem?_mapIdx,b,a,hd]
def Io (H:HR ν h w) {id g g' b off cap:Nat} {xs xs':AS Int} {d:Array Int} {c:Array Value} {e:TypeId} {n:Nat} {os:Array Obj} (D:lkB h id=.row (.int .i64) g false (xs:AS (Val (.int .i64)))) (a:ν id=.slice (some ⟨b,off,none⟩) xs.length cap)
 (z:w.heap[b]?=some (.cells c e (0,0))) (l:off+cap<=c.size) (m:xs'.length<=cap) (k:g<g'\/(g=g'/\xs'.length=xs.length)) (hd:d.size<=cap) (C:∀(i:Nat) (x:Int),xs'[i]?=some x->d[i]?=some x) :
 Ev h.length ν h w (Ü ν id (.slice (some ⟨b,off,none⟩) xs'.length cap)) (Ú h id (.row (.int .i64) g' false (xs':AS (Val (.int .i64))))) (grow (putRow (Value.int .i64) (Sort.ahead w n) b off d) os) /\
  HR (Ü ν id (.slice (some ⟨b,off,none⟩) xs'.length cap)) (Ú h id (.row (.int .i64) g' false (xs':AS (Val (.int .i64))))) (grow (putRow (Value.int .i64) (Sort.ahead w n) b off d) os):=by
 have u:(putCells (Value.int .i64) off d c).size=c.size:=by simp[putCells]
 obtain⟨ev,F⟩:=Cv (t:=.int .i64) (xs:=(xs:AS (Val (.int .i64)))) (xs':=(xs':AS (Val (.int .i64)))) (g':=g') (o':=off) (cap':=cap) (c':=putCells (Value.int .i64) off d c) H D (by rw[a]; rfl) z m (by rw[u]; simpa[Ty.size] using l)
  (by
   rcases k with k|⟨k,f⟩
   ·exact .inl k
   ·exact .inr ⟨k,by rw[a,f],f⟩) (fun i x hi=>by
   have s:=C i x hi;obtain⟨q,p⟩:=cS.1 s;refine⟨[.int .i64 x],rfl,fun j v o=>?_⟩
   cases j with
   |zero =>
    simp only[cQ,Option.some.injEq] at o;subst o;simp only[Ty.size,dS,dD];rw[Rc (by omega) (by omega) (by omega),Nat.add_sub_cancel_left,getElem!_pos d i q,p]
   |succ j=>simp at o)
 obtain⟨B,A⟩:=G0 (n:=n) (os:=os) (off:=off) (d:=d) z;obtain⟨y,E⟩:=F.grow B A rfl rfl rfl h.length;exact⟨ev.trans y (bt _),E⟩
def FK (H:HR ν h w) {id g b off cap:Nat} {xs:AS Int} {c:Array Value} {e:TypeId} (q:lkB h id=.row (.int .i64) g false (xs:AS (Val (.int .i64)))) (f:ν id=.slice (some ⟨b,off,none⟩) xs.length cap) (t:w.heap[b]?=some (.cells c e (0,0))) :
 Holds (Value.int .i64) w b off xs.toArray:=by
 have l:=H.blk id;rw[q] at l;obtain⟨base,cap',i,z,d⟩:=l
 rw[f] at i; injection i with v A u; subst v; subst u
 intro j s
 have a:j<xs.length:=by simpa using s
 refine⟨?_,by simp[World.frozen?,t]⟩;rcases d with⟨d,_⟩|⟨C,k,c',B,p,y,x,o⟩
 ·cases d
 ·cases p;obtain⟨us,n,m⟩:=o j (xs[j]'a) (br a);have h0:us=[.int .i64 (xs[j]'a)]:=n;subst h0;have:=m 0 _ rfl;simp only[Ty.size,dS,dD] at this;rw[this];simp[getElem!_pos,a]
def KU (L:Lays2.n20 P r) {x:AV} {K:AV->AS Blk->AN ρ} {q:ρ} (e:iR h x K=some q) (H:HR ν h w) {u:Value} (G:VR ν h w x u) (hb:∃c,(Body2.n20 r).body=some c):uB P (r.f 20) ν h w [u] K q:=by
 refine⟨⟨_,_,L.f20,hb.choose_spec⟩,?_⟩;unfold iR at e
 split at e<;>try (cases e; done)
 ·rename_i id g
  split at e<;>try (cases e; done)
  rename_i ty g' xs o
  split at e<;>try (cases e; done)
  rename_i p
  have p:g=g':=by simpa using p
  subst p
  split at e<;>try (cases e; done)
  rename_i S _;subst S
  split at e<;>try (cases e; done)
  rename_i E;simp only[ã,decide_eq_true_eq] at E;obtain⟨ho,t2,g2,Y,N,v,T,A⟩:=G;rw[o] at v; cases v;have z:=A rfl;have J:=H.blk id;rw[o] at J;obtain⟨base,cap,y,R,Q⟩:=J;have m:id<h.length:=Ģ o (by simp)
  have l:∀B,∀j,j<h.length->lkB h j=.dead->lkB (Ú h id B) j=.dead:=fun B j _ hd=>by
   rw[È]
   ·exact hd
   ·rintro rfl; rw[o] at hd; cases hd
  rcases Q with⟨rfl,rfl⟩|⟨b,off,c,e',rfl,F,O,q6⟩
  ·have t:xs=[]:=bL.1 (by omega);subst t
   have C:u=.slice none 0 0:=by rw[z,y]; rfl
   subst C;refine(uD fun D=>AnyS.slices_Compact_int_empty_in L D none 0 w).mono fun M w' s=>?_;obtain⟨rfl,rfl⟩:=s
   have I:(Blk.row (.int .i64) (g+1) false ([]:AS (Val (.int .i64)))).live=true->∀k,ć (Value.slice none 0 0) k->((lkB h id).live=true/\ć (ν id) k)\/w'.heap.size<=k:=fun _ k U=>by cases U
   have ev:=Ev.upd H (B:=.row (.int .i64) (g+1) false ([]:AS (Val (.int .i64)))) (V:=.slice none 0 0) (w':=w') m rfl rfl rfl (bt _) (fun _ _ _=>rfl) I (by
    rw[o]; exact⟨g+1,false,_,rfl,eA _,fun hf=>by omega⟩)
   have Z:=HR.upd H m ev (fun _ _ _=>rfl) I ⟨none,0,Ç _ _ _,bt _,.inl ⟨rfl,rfl⟩⟩;exact⟨_,_,_,_,rfl,oc m rfl,Z,ev,by rw[Ê]; exact bt _,l _,e⟩
  ·subst z;rw[y];have W:=FK H o y F;have X:=Lib.compact_length_le (xs:AS Int);refine(uD fun D=>AnyS.slices_Compact_int_in L D b off cap xs w W (by omega) R).mono fun M w' s=>?_;obtain⟨rfl,n,rfl⟩:=s
   have a:=Io (n:=n) (os:=#[]) (g':=g+1) (xs':=Lib.compact (xs:AS Int)) (d:=(Lib.compact (xs:AS Int)++List.replicate ((xs:AS Int).length-(Lib.compact (xs:AS Int)).length) 0).toArray) H o y F
    (by simpa[Ty.size] using O) (by omega) (.inl (eY _)) (by simp; omega) (fun i x hi=>by
     have:=(bB.1 hi).1;simp only[cA];rw[List.getElem?_append_left this]
     exact hi)
   rw[grow_empty] at a;exact⟨_,_,_,_,rfl,oc m rfl,a.2,a.1,by rw[Ê]; exact bt _,l _,e⟩
 ·have z:u=.slice none 0 0:=G;subst z;refine(uD fun D=>AnyS.slices_Compact_int_empty_in L D none 0 w).mono fun M w' s=>?_;obtain⟨rfl,rfl⟩:=s;exact⟨ν,h,.nils,_,rfl,rfl,H,Ev.refl _ _ _ _,bt _,fun _ _ hd=>hd,e⟩
end
end Go.Am
end

noncomputable section
namespace Go.Am
variable [Globs] [É]
open Go.Sort Go.Shelf Go.Proofs
section
variable {ρ:Type} {ν:Nat->Value} {h:AS Blk} {w:World} {P:Program} {r:Ren}
def Q6 (L:Lays.n189 P r) {x:AV} {K:AV->AS Blk->AN ρ} {q:ρ} (e:Cs h x K=some q) (H:HR ν h w) {u:Value} (M:VR ν h w x u) (hb:∃c,(Body.n189 r).body=some c):uB P (r.f 189) ν h w [u] K q:=by
 refine⟨⟨_,_,L.f189,hb.choose_spec⟩,?_⟩;have a:∀{ν:Nat->Value} {h:AS Blk} {w:World},VR ν h w (.tup []) (.tuple #[]):=⟨#[],rfl,trivial⟩;unfold Cs at e
 split at e<;>try (cases e; done)
 ·rename_i id g
  split at e<;>try (cases e; done)
  rename_i ty g' xs s
  split at e<;>try (cases e; done)
  rename_i t
  have t:g=g':=by simpa using t
  subst t
  split at e<;>try (cases e; done)
  rename_i W _;subst W
  split at e<;>try (cases e; done)
  rename_i J;simp only[ã,decide_eq_true_eq] at J;obtain⟨ho,t2,g2,fz2,R,A,X,G⟩:=M;rw[s] at A; cases A;have E:=G rfl;have O:=H.blk id;rw[s] at O;obtain⟨base,cap,v,U,T⟩:=O;have C:id<h.length:=Ģ s (by simp)
  have m:∀B,∀j,j<h.length->lkB h j=.dead->lkB (Ú h id B) j=.dead:=fun B j _ hd=>by
   rw[È]
   ·exact hd
   ·rintro rfl; rw[s] at hd; cases hd
  have p:(sa (xs:AS Int)).length=(xs:AS Int).length:=List.length_mergeSort _;rcases T with⟨rfl,rfl⟩|⟨b,off,c,e',rfl,F,S,q6⟩
  ·have z:xs=[]:=bL.1 (by omega);subst z
   have I:u=.slice none 0 0:=by rw[E,v]; rfl
   subst I;refine(uD fun D=>AnyS.slices_Sort_int_none_alone L D none 0 w).mono fun Q w' y=>?_;obtain⟨rfl,rfl⟩:=y
   have N:(Blk.row (.int .i64) g false ([]:AS (Val (.int .i64)))).live=true->∀k,ć (Value.slice none 0 0) k->((lkB h id).live=true/\ć (ν id) k)\/w'.heap.size<=k:=fun _ k Y=>by cases Y
   have ev:=Ev.upd H (B:=.row (.int .i64) g false ([]:AS (Val (.int .i64)))) (V:=.slice none 0 0) (w':=w') C rfl rfl rfl (bt _) (fun _ _ _=>rfl) N (by
    rw[s]; exact⟨g,false,_,rfl,bt _,fun _=>⟨by rw[Ç,v]; rfl,rfl⟩⟩)
   have H':=HR.upd H C ev (fun _ _ _=>rfl) N ⟨none,0,Ç _ _ _,bt _,.inl ⟨rfl,rfl⟩⟩
   have h0:sa ([]:AS Int)=[]:=by simp[sa]
   exact⟨_,_,_,_,rfl,a,H',ev,by rw[Ê]; exact bt _,m _,(congrArg (fun l:AS Int=>K (.tup []) (Ú h id (.row (.int .i64) g false (l:AS (Val (.int .i64)))))) h0.symm).trans e⟩
  ·subst E;rw[v];have Z:=FK H s v F;refine(uD fun D=>AnyS.slices_Sort_int_alone L D b off cap xs w Z (Õ F) (by omega)).mono fun Q w' y=>?_;obtain⟨rfl,n,os,rfl⟩:=y
   have o:=Io (n:=n) (os:=os) (g':=g) (xs':=sa (xs:AS Int)) (d:=(sa (xs:AS Int)).toArray) H s v F
    (by simpa[Ty.size] using S) (by omega) (.inr ⟨rfl,p⟩) (by simp[p]; exact U) (fun i x hi=>by simpa using hi)
   exact⟨_,_,_,_,rfl,a,o.2,o.1,by rw[Ê]; exact bt _,m _,e⟩
 ·have E:u=.slice none 0 0:=M;subst E;refine(uD fun D=>AnyS.slices_Sort_int_none_alone L D none 0 w).mono fun Q w' y=>?_;obtain⟨rfl,rfl⟩:=y;exact⟨ν,h,.tup [],_,rfl,a,H,Ev.refl _ _ _ _,bt _,fun _ _ hd=>hd,e⟩
end
end Go.Am
end
