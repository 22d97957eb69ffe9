/- lemmas -/
import Derived.Test.YtanjeafjkgllhaaGreatDoorAmC
import Derived.Shelf.Slices.In.SortAlone
import Derived.Shelf.Slices.In.CompactI
import Derived.Sort.Grow
import Derived.Lib.RowBridge
import Derived.Shelf.Slices.In.SortNone
set_option linter.all false
noncomputable section
namespace Go.Am
variable [Globs] [Ghost]
open Go.Sort Go.Shelf Go.Proofs
section
variable {ρ:Type} {ν:Nat->Value} {h:rT Blk} {w:World} {P:Program} {r:Ren}
omit [Ghost] in
def HF {L:rT FuncId} {n:Nat} {f:FuncId} {a:Array Value} {R:Ending->World->Prop} (b:∀D,CallsIn (Fence.list L (some D)) n P f a w R):CallsIn Fence.wide 0 P f a w R :=
 callsIn_wide.2 fun cs=>by
  obtain⟨_,c⟩:=b (cs.length+1+n)
  obtain⟨e,w',g,r,s,x⟩:=c cs fun d hd=>by cases hd; exact du _
  exact⟨e,w',g,r,s.comes,x⟩
omit [Ghost] in
def aaY {b off:Nat} {c:Array Value} {e:TypeId} {d:Array Int} {n:Nat} {os:Array Obj} (i:w.heap[b]?=some (.cells c e (0,0))) :
 (∀k,k<(w.setRow b (putCells (Value.int .i64) off d c)).heap.size->(grow (putRow (Value.int .i64) (Sort.ahead w n) b off d) os).heap[k]?=(w.setRow b (putCells (Value.int .i64) off d c)).heap[k]?) /\
  (w.setRow b (putCells (Value.int .i64) off d c)).heap.size<=(grow (putRow (Value.int .i64) (Sort.ahead w n) b off d) os).heap.size:=by
 have f:(w.setRow b (putCells (Value.int .i64) off d c)).heap.size=w.heap.size:=by simp[World.setRow]
 constructor
 ·intro k g;rw[f] at g
  have j:(grow (putRow (Value.int .i64) (Sort.ahead w n) b off d) os).heap[k]?=(putRow (Value.int .i64) (Sort.ahead w n) b off d).heap[k]?:=by
   simp only[grow];rw[Array.getElem?_append_left];simpa[putRow,mapBlock,Sort.ahead] using g
  rw[j]
  by_cases a:k=b
  ·subst a;rw[setRow_heap w k c _ e _ i];simp[putRow,mapBlock,Sort.ahead,Array.getElem?_modify,i,onCells]
  ·rw[setRow_other w b k _ a];simp[putRow,mapBlock,Sort.ahead,Array.getElem?_modify,Ne.symm a]
 ·rw[f];simp[grow,putRow,mapBlock,Sort.ahead]
omit [Ghost] in
def am0 {off:Nat} {c:Array Value} {d:Array Int} {k:Nat} (a:off<=k) (hd:k<off+d.size) (b:k<c.size):(putCells (Value.int .i64) off d c)[k]?=some (.int .i64 d[k-off]!):=by
 simp[putCells,Array.getElem?_mapIdx,b,a,hd]
def acA (H:HR ν h w) {id g g' b off cap:Nat} {xs xs':rT Int} {d:Array Int} {c:Array Value} {e:TypeId} {n:Nat} {os:Array Obj} (C:lkB h id=.row (.int .i64) g false (xs:rT (Val (.int .i64)))) (a:ν id=.slice (some ⟨b,off,none⟩) xs.length cap)
 (z:w.heap[b]?=some (.cells c e (0,0))) (l:off+cap<=c.size) (m:xs'.length<=cap) (k:g<g'\/(g=g'/\xs'.length=xs.length)) (hd:d.size<=cap) (B:∀(i:Nat) (x:Int),xs'[i]?=some x->d[i]?=some x) :
 Ev h.length ν h w (ý ν id (.slice (some ⟨b,off,none⟩) xs'.length cap)) (î h id (.row (.int .i64) g' false (xs':rT (Val (.int .i64))))) (grow (putRow (Value.int .i64) (Sort.ahead w n) b off d) os) /\
  HR (ý ν id (.slice (some ⟨b,off,none⟩) xs'.length cap)) (î h id (.row (.int .i64) g' false (xs':rT (Val (.int .i64))))) (grow (putRow (Value.int .i64) (Sort.ahead w n) b off d) os):=by
 have u:(putCells (Value.int .i64) off d c).size=c.size:=by simp[putCells]
 obtain⟨ev,E⟩:=Vb (t:=.int .i64) (xs:=(xs:rT (Val (.int .i64)))) (xs':=(xs':rT (Val (.int .i64)))) (g':=g') (o':=off) (cap':=cap) (c':=putCells (Value.int .i64) off d c) H C (by rw[a]; rfl) z m (by rw[u]; simpa[Ty.size] using l)
  (by
   rcases k with k|⟨k,f⟩
   ·exact .inl k
   ·exact .inr ⟨k,by rw[a,f],f⟩) (fun i x hi=>by
   have s:=B i x hi;obtain⟨q,p⟩:=fH.1 s;refine⟨[.int .i64 x],rfl,fun j v o=>?_⟩
   cases j with
   |zero =>
    simp only[fi,Option.some.injEq] at o;subst o;simp only[Ty.size,Nat.mul_one,gq];rw[am0 (by omega) (by omega) (by omega),Nat.add_sub_cancel_left,getElem!_pos d i q,p]
   |succ j=>simp at o)
 obtain⟨k1,A⟩:=aaY (n:=n) (os:=os) (off:=off) (d:=d) z;obtain⟨y,D⟩:=E.grow k1 A rfl rfl rfl h.length;exact⟨ev.trans y (du _),D⟩
def Zz (H:HR ν h w) {id g b off cap:Nat} {xs:rT Int} {c:Array Value} {e:TypeId} (q:lkB h id=.row (.int .i64) g false (xs:rT (Val (.int .i64)))) (f:ν id=.slice (some ⟨b,off,none⟩) xs.length cap) (t:w.heap[b]?=some (.cells c e (0,0))) :
 Holds (Value.int .i64) w b off xs.toArray:=by
 have l:=H.blk id;rw[q] at l;obtain⟨base,cap',i,z,d⟩:=l
 rw[f] at i; injection i with v A u; subst v; subst u
 intro j s
 have a:j<xs.length:=by simpa using s
 refine⟨?_,by simp[World.frozen?,t]⟩;rcases d with⟨d,_⟩|⟨C,k,c',B,p,y,x,o⟩
 ·cases d
 ·cases p;obtain⟨us,n,m⟩:=o j (xs[j]'a) (dv a);have h0:us=[.int .i64 (xs[j]'a)]:=n;subst h0;have:=m 0 _ rfl;simp only[Ty.size,Nat.mul_one,gq] at this;rw[this];simp[getElem!_pos,a]
def afK (L:Lays2.n20 P r) {x:AV} {K:AV->rT Blk->rF ρ} {q:ρ} (e:o9 h x K=some q) (H:HR ν h w) {u:Value} (G:VR ν h w x u) (hb:∃c,(Body2.n20 r).body=some c):HB P (r.f 20) ν h w [u] K q:=by
 refine⟨⟨_,_,L.f20,hb.choose_spec⟩,?_⟩;unfold o9 at e
 split at e<;>try (cases e; done)
 ·rename_i id g
  split at e<;>try (cases e; done)
  rename_i ty g' xs o
  split at e<;>try (cases e; done)
  rename_i p
  have p:g=g':=by simpa using p
  subst p
  split at e<;>try (cases e; done)
  rename_i S _;subst S
  split at e<;>try (cases e; done)
  rename_i E;simp only[Î,decide_eq_true_eq] at E;obtain⟨ho,t2,g2,Y,N,v,T,A⟩:=G;rw[o] at v; cases v;have z:=A rfl;have J:=H.blk id;rw[o] at J;obtain⟨base,cap,y,R,Q⟩:=J;have m:id<h.length:=Ν o (by simp)
  have l:∀B,∀j,j<h.length->lkB h j=.dead->lkB (î h id B) j=.dead:=fun B j _ hd=>by
   rw[Ð]
   ·exact hd
   ·rintro rfl; rw[o] at hd; cases hd
  rcases Q with⟨rfl,rfl⟩|⟨b,off,c,e',rfl,F,O,q6⟩
  ·have t:xs=[]:=dZ.1 (by omega);subst t
   have C:u=.slice none 0 0:=by rw[z,y]; rfl
   subst C;refine(HF fun D=>AnyS.slices_Compact_int_empty_in L D none 0 w).mono fun M w' s=>?_;obtain⟨rfl,rfl⟩:=s
   have I:(Blk.row (.int .i64) (g+1) false ([]:rT (Val (.int .i64)))).live=true->∀k,Ĭ (Value.slice none 0 0) k->((lkB h id).live=true/\Ĭ (ν id) k)\/w'.heap.size<=k:=fun _ k U=>by cases U
   have ev:=Ev.upd H (B:=.row (.int .i64) (g+1) false ([]:rT (Val (.int .i64)))) (V:=.slice none 0 0) (w':=w') m rfl rfl rfl (du _) (fun _ _ _=>rfl) I (by
    rw[o]; exact⟨g+1,false,_,rfl,Nat.le_succ _,fun hf=>by omega⟩)
   have Z:=HR.upd H m ev (fun _ _ _=>rfl) I ⟨none,0,Õ _ _ _,du _,.inl ⟨rfl,rfl⟩⟩;exact⟨_,_,_,_,rfl,wn m rfl,Z,ev,by rw[Û]; exact du _,l _,e⟩
  ·subst z;rw[y];have W:=Zz H o y F;have X:=Lib.compact_length_le (xs:rT Int);refine(HF fun D=>AnyS.slices_Compact_int_in L D b off cap xs w W (by omega) R).mono fun M w' s=>?_;obtain⟨rfl,n,rfl⟩:=s
   have a:=acA (n:=n) (os:=#[]) (g':=g+1) (xs':=Lib.compact (xs:rT Int)) (d:=(Lib.compact (xs:rT Int)++List.replicate ((xs:rT Int).length-(Lib.compact (xs:rT Int)).length) 0).toArray) H o y F
    (by simpa[Ty.size] using O) (by omega) (.inl (gY _)) (by simp; omega) (fun i x hi=>by
     have:=(dC.1 hi).1;simp only[fJ];rw[gI this]
     exact hi)
   rw[grow_empty] at a;exact⟨_,_,_,_,rfl,wn m rfl,a.2,a.1,by rw[Û]; exact du _,l _,e⟩
 ·have z:u=.slice none 0 0:=G;subst z;refine(HF fun D=>AnyS.slices_Compact_int_empty_in L D none 0 w).mono fun M w' s=>?_;obtain⟨rfl,rfl⟩:=s;exact⟨ν,h,.nils,_,rfl,rfl,H,Ev.refl _ _ _ _,du _,fun _ _ hd=>hd,e⟩
end
end Go.Am
end

noncomputable section
namespace Go.Am
def insI_perm (a:Int):∀l,(agk a l).Perm (a::l)
 |[]=>gh _
 |b::t=>by
  unfold agk
  split
  ·exact gh _
  ·exact((insI_perm a t).cons b).trans (List.Perm.swap a b t)
def isortI_perm:∀l,(GO l).Perm l
 |[]=>gh _
 |a::t=>(insI_perm a _).trans ((isortI_perm t).cons a)
def insI_sorted (a:Int):∀{l:rT Int},l.Pairwise (·<=·)->(agk a l).Pairwise (·<=·)
 |[],_=>by simp[agk]
 |b::t,h=>by
  rw[List.pairwise_cons] at h;unfold agk
  split
  ·rename_i d;refine dU.2 ⟨fun x c=>?_,dU.2 h⟩;rcases dE.1 c with rfl|c
   ·exact d
   ·have:=h.1 x c; omega
  ·rename_i d;refine dU.2 ⟨fun x c=>?_,insI_sorted a h.2⟩;rcases dE.1 ((insI_perm a t).mem_iff.1 c) with rfl|c
   ·omega
   ·exact h.1 x c
def isortI_sorted:∀l:rT Int,(GO l).Pairwise (·<=·)
 |[]=>List.Pairwise.nil
 |a::t=>insI_sorted a (isortI_sorted t)
def Xq (l:rT Int):rT Int:=l.mergeSort (fun a b=>decide (a<=b))
def amS (l:rT Int):Km l=Xq l:=by
 have d:(Xq l).Pairwise (·<=·):=by
  have:=List.pairwise_mergeSort (le:=fun a b:Int=>decide (a<=b)) (fun a b c d h2=>by simp at *; omega) (fun a b=>by simp; omega) l
  exact this.imp fun h=>by simpa using h
 exact List.Perm.eq_of_pairwise (le:=(·<=·)) (fun a b _ _ d h2=>by omega) (isortI_sorted l) d ((isortI_perm l).trans (List.mergeSort_perm l _).symm)
variable [Globs] [Ghost]
open Go.Sort Go.Shelf Go.Proofs
section
variable {ρ:Type} {ν:Nat->Value} {h:rT Blk} {w:World} {P:Program} {r:Ren}
def amR (L:Lays.n189 P r) {x:AV} {K:AV->rT Blk->rF ρ} {q:ρ} (e:U8 h x K=some q) (H:HR ν h w) {u:Value} (O:VR ν h w x u) (hb:∃c,(Body.n189 r).body=some c):HB P (r.f 189) ν h w [u] K q:=by
 refine⟨⟨_,_,L.f189,hb.choose_spec⟩,?_⟩;have a:∀{ν:Nat->Value} {h:rT Blk} {w:World},VR ν h w (.tup []) (.tuple #[]):=⟨#[],rfl,trivial⟩;unfold U8 at e
 split at e<;>try (cases e; done)
 ·rename_i id g
  split at e<;>try (cases e; done)
  rename_i ty g' xs s
  split at e<;>try (cases e; done)
  rename_i v
  have v:g=g':=by simpa using v
  subst v
  split at e<;>try (cases e; done)
  rename_i Y _;subst Y
  split at e<;>try (cases e; done)
  rename_i N;rw[show Km (uQ (F:=fun t=>rT (Val t)) rfl xs)=Xq (xs:rT Int) from amS _] at e;simp only[Î,decide_eq_true_eq] at N;obtain⟨ho,t2,g2,fz2,T,C,Z,J⟩:=O;rw[s] at C; cases C;have G:=J rfl;have R:=H.blk id;rw[s] at R;obtain⟨base,cap,y,X,W⟩:=R;have E:id<h.length:=Ν s (by simp)
  have m:∀B,∀j,j<h.length->lkB h j=.dead->lkB (î h id B) j=.dead:=fun B j _ hd=>by
   rw[Ð]
   ·exact hd
   ·rintro rfl; rw[s] at hd; cases hd
  have p:(Xq (xs:rT Int)).length=(xs:rT Int).length:=List.length_mergeSort _;rcases W with⟨rfl,rfl⟩|⟨b,off,c,e',rfl,I,U,q6⟩
  ·have A:xs=[]:=dZ.1 (by omega);subst A
   have M:u=.slice none 0 0:=by rw[G,y]; rfl
   subst M;refine(HF fun D=>AnyS.slices_Sort_int_none_alone L D none 0 w).mono fun S w' z=>?_;obtain⟨rfl,rfl⟩:=z
   have Q:(Blk.row (.int .i64) g false ([]:rT (Val (.int .i64)))).live=true->∀k,Ĭ (Value.slice none 0 0) k->((lkB h id).live=true/\Ĭ (ν id) k)\/w'.heap.size<=k:=fun _ k hk=>by cases hk
   have ev:=Ev.upd H (B:=.row (.int .i64) g false ([]:rT (Val (.int .i64)))) (V:=.slice none 0 0) (w':=w') E rfl rfl rfl (du _) (fun _ _ _=>rfl) Q (by
    rw[s]; exact⟨g,false,_,rfl,du _,fun _=>⟨by rw[Õ,y]; rfl,rfl⟩⟩)
   have H':=HR.upd H E ev (fun _ _ _=>rfl) Q ⟨none,0,Õ _ _ _,du _,.inl ⟨rfl,rfl⟩⟩
   have h0:Xq ([]:rT Int)=[]:=by simp[Xq]
   exact⟨_,_,_,_,rfl,a,H',ev,by rw[Û]; exact du _,m _,(congrArg (fun l:rT Int=>K (.tup []) (î h id (.row (.int .i64) g false (l:rT (Val (.int .i64)))))) h0.symm).trans e⟩
  ·subst G;rw[y];have hh:=Zz H s y I;refine(HF fun D=>AnyS.slices_Sort_int_alone L D b off cap xs w hh (å I) (by omega)).mono fun S w' z=>?_;obtain⟨rfl,n,os,rfl⟩:=z
   have o:=acA (n:=n) (os:=os) (g':=g) (xs':=Xq (xs:rT Int)) (d:=(Xq (xs:rT Int)).toArray) H s y I
    (by simpa[Ty.size] using U) (by omega) (.inr ⟨rfl,p⟩) (by simp[p]; exact X) (fun i x hi=>by simpa using hi)
   exact⟨_,_,_,_,rfl,a,o.2,o.1,by rw[Û]; exact du _,m _,e⟩
 ·have G:u=.slice none 0 0:=O;subst G;refine(HF fun D=>AnyS.slices_Sort_int_none_alone L D none 0 w).mono fun S w' z=>?_;obtain⟨rfl,rfl⟩:=z;exact⟨ν,h,.tup [],_,rfl,a,H,Ev.refl _ _ _ _,du _,fun _ _ hd=>hd,e⟩
end
end Go.Am
end
