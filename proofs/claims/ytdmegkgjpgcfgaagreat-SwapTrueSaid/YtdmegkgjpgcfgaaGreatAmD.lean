/- lemmas -/
import Derived.Test.YtdmegkgjpgcfgaaGreatAmC
import Derived.Shelf.Slices.In.SortAlone
import Derived.Shelf.Slices.In.CompactI
import Derived.Sort.Grow
import Derived.Lib.RowBridge
import Derived.Shelf.Slices.In.SortNone
set_option linter.all false
set_option linter.unusedSectionVars false
set_option linter.unusedVariables false
set_option linter.unusedSimpArgs false
noncomputable section
namespace Go.Am
variable [Ghost]
open Go.Sort Go.Shelf Go.Proofs
section
variable {ρ:Type} {ν:Nat→Value} {h:List Blk} {w:World} {P:Program} {r:Ren}
omit [Ghost] in
def FO {L:List FuncId} {n:Nat} {f:FuncId} {args:Array Value} {R:Ending→World→Prop} (hc:∀D,CallsIn (Fence.list L (some D)) n P f args w R):CallsIn Fence.wide 0 P f args w R :=
 callsIn_wide.2 fun cs=>by
  obtain⟨_,h1⟩:=hc (cs.length+1+n)
  obtain⟨e,w',fr,r,s,x⟩:=h1 cs fun d hd=>by cases hd; exact cG _
  exact⟨e,w',fr,r,s.comes,x⟩
omit [Ghost] in
def X5 {b off:Nat} {c:Array Value} {e:TypeId} {d:Array Int} {n:Nat} {os:Array Obj} (hc:w.heap[b]?=some (.cells c e (0,0))) :
 (∀k,k<(w.setRow b (putCells (Value.int .i64) off d c)).heap.size→(grow (putRow (Value.int .i64) (Sort.ahead w n) b off d) os).heap[k]?=(w.setRow b (putCells (Value.int .i64) off d c)).heap[k]?) ∧
  (w.setRow b (putCells (Value.int .i64) off d c)).heap.size≤(grow (putRow (Value.int .i64) (Sort.ahead w n) b off d) os).heap.size:=by
 have hs:(w.setRow b (putCells (Value.int .i64) off d c)).heap.size=w.heap.size:=by simp[World.setRow]
 constructor
 ·intro k hk;rw[hs] at hk
  have h1:(grow (putRow (Value.int .i64) (Sort.ahead w n) b off d) os).heap[k]?=(putRow (Value.int .i64) (Sort.ahead w n) b off d).heap[k]?:=by
   simp only[grow];rw[Array.getElem?_append_left];simpa[putRow,mapBlock,Sort.ahead] using hk
  rw[h1]
  by_cases hkb:k=b
  ·subst hkb;rw[setRow_heap w k c _ e _ hc];simp[putRow,mapBlock,Sort.ahead,Array.getElem?_modify,hc,onCells]
  ·rw[setRow_other w b k _ hkb];simp[putRow,mapBlock,Sort.ahead,Array.getElem?_modify,Ne.symm hkb]
 ·rw[hs];simp[grow,putRow,mapBlock,Sort.ahead]
omit [Ghost] in
def ai4 {off:Nat} {c:Array Value} {d:Array Int} {k:Nat} (hk:off≤k) (hd:k<off+d.size) (hc:k<c.size):(putCells (Value.int .i64) off d c)[k]?=some (.int .i64 d[k-off]!):=by
 simp[putCells,Array.getElem?_mapIdx,hc,hk,hd]
def aaf (H:HR ν h w) {id g g' b off cap:Nat} {xs xs':List Int} {d:Array Int} {c:Array Value} {e:TypeId} {n:Nat} {os:Array Obj} (hl:lkB h id=.row (.int .i64) g false (xs:List (Val (.int .i64)))) (hν:ν id=.slice (some ⟨b,off,none⟩) xs.length cap)
 (hc:w.heap[b]?=some (.cells c e (0,0))) (hsz:off+cap≤c.size) (hle:xs'.length≤cap) (hg:g<g'∨(g=g'∧xs'.length=xs.length)) (hd:d.size≤cap) (hx:∀(i:Nat) (x:Int),xs'[i]?=some x→d[i]?=some x) :
 Ev h.length ν h w (ï ν id (.slice (some ⟨b,off,none⟩) xs'.length cap)) (ð h id (.row (.int .i64) g' false (xs':List (Val (.int .i64))))) (grow (putRow (Value.int .i64) (Sort.ahead w n) b off d) os) ∧
  HR (ï ν id (.slice (some ⟨b,off,none⟩) xs'.length cap)) (ð h id (.row (.int .i64) g' false (xs':List (Val (.int .i64))))) (grow (putRow (Value.int .i64) (Sort.ahead w n) b off d) os):=by
 have hcs:(putCells (Value.int .i64) off d c).size=c.size:=by simp[putCells]
 obtain⟨ev,H1⟩:=QV (t:=.int .i64) (xs:=(xs:List (Val (.int .i64)))) (xs':=(xs':List (Val (.int .i64)))) (g':=g') (o':=off) (cap':=cap) (c':=putCells (Value.int .i64) off d c) H hl (by rw[hν]; rfl) hc hle (by rw[hcs]; simpa[Ty.size] using hsz)
  (by
   rcases hg with hg|⟨hg,hl2⟩
   ·exact .inl hg
   ·exact .inr ⟨hg,by rw[hν,hl2],hl2⟩) (fun i x hi=>by
   have hdi:=hx i x hi;obtain⟨hi2,hi3⟩:=eV.1 hdi;refine⟨[.int .i64 x],rfl,fun j v hj=>?_⟩
   cases j with
   |zero =>
    simp only[fL,Option.some.injEq] at hj;subst hj;simp only[Ty.size,fY,fG];rw[ai4 (by omega) (by omega) (by omega),Nat.add_sub_cancel_left,getElem!_pos d i hi2,hi3]
   |succ j=>simp at hj)
 obtain⟨k1,k2⟩:=X5 (n:=n) (os:=os) (off:=off) (d:=d) hc;obtain⟨ev2,H2⟩:=H1.grow k1 k2 rfl rfl rfl h.length;exact⟨ev.trans ev2 (cG _),H2⟩
def WS (H:HR ν h w) {id g b off cap:Nat} {xs:List Int} {c:Array Value} {e:TypeId} (hl:lkB h id=.row (.int .i64) g false (xs:List (Val (.int .i64)))) (hν:ν id=.slice (some ⟨b,off,none⟩) xs.length cap) (hc:w.heap[b]?=some (.cells c e (0,0))) :
 Holds (Value.int .i64) w b off xs.toArray:=by
 have hB:=H.blk id;rw[hl] at hB;obtain⟨base,cap',q1,q2,q3⟩:=hB
 rw[hν] at q1; injection q1 with e1 e2 e3; subst e1; subst e3
 intro j hj
 have hj':j<xs.length:=by simpa using hj
 refine⟨?_,by simp[World.frozen?,hc]⟩;rcases q3 with⟨q3,_⟩|⟨b',off',c',e',q4,q5,q6,q7⟩
 ·cases q3
 ·cases q4;obtain⟨us,q8,q9⟩:=q7 j (xs[j]'hj') (cF hj');have h0:us=[.int .i64 (xs[j]'hj')]:=q8;subst h0;have:=q9 0 _ rfl;simp only[Ty.size,fY,fG] at this;rw[this];simp[getElem!_pos,hj']
def acD (L:Lays2.n20 P r) {x:AV} {K:AV→List Blk→Option ρ} {q:ρ} (e:pw h x K=some q) (H:HR ν h w) {u:Value} (hx:VR ν h w x u) (hb:∃c,(Body2.n20 r).body=some c):FM P (r.f 20) ν h w [u] K q:=by
 refine⟨⟨_,_,L.f20,hb.choose_spec⟩,?_⟩;unfold pw at e
 split at e<;>try (cases e; done)
 ·rename_i id g
  split at e<;>try (cases e; done)
  rename_i ty g' xs hl
  split at e<;>try (cases e; done)
  rename_i hgg
  have hgg:g=g':=by simpa using hgg
  subst hgg
  split at e<;>try (cases e; done)
  rename_i ht _;subst ht
  split at e<;>try (cases e; done)
  rename_i hok;simp only[ê,decide_eq_true_eq] at hok;obtain⟨ho,t2,g2,fz2,xs2,hl2,hle,hv2⟩:=hx;rw[hl] at hl2; cases hl2;have hu:=hv2 rfl;have hB:=H.blk id;rw[hl] at hB;obtain⟨base,cap,q1,q2,q3⟩:=hB;have hid:id<h.length:=Ű hl (by simp)
  have hdead:∀B,∀j,j<h.length→lkB h j=.dead→lkB (ð h id B) j=.dead:=fun B j _ hd=>by
   rw[Ó]
   ·exact hd
   ·rintro rfl; rw[hl] at hd; cases hd
  rcases q3 with⟨rfl,rfl⟩|⟨b,off,c,e',rfl,q4,q5,q6⟩
  ·have hnil:xs=[]:=cX.1 (by omega);subst hnil
   have hu2:u=.slice none 0 0:=by rw[hu,q1]; rfl
   subst hu2;refine(FO fun D=>AnyS.slices_Compact_int_empty_in L D none 0 w).mono fun e1 w' hw=>?_;obtain⟨rfl,rfl⟩:=hw
   have hV:(Blk.row (.int .i64) (g+1) false ([]:List (Val (.int .i64)))).live=true→∀k,Ļ (Value.slice none 0 0) k→((lkB h id).live=true∧Ļ (ν id) k)∨w'.heap.size≤k:=fun _ k hk=>by cases hk
   have ev:=Ev.upd H (B:=.row (.int .i64) (g+1) false ([]:List (Val (.int .i64)))) (V:=.slice none 0 0) (w':=w') hid rfl rfl rfl (cG _) (fun _ _ _=>rfl) hV (by
    rw[hl]; exact⟨g+1,false,_,rfl,gq _,fun hf=>by omega⟩)
   have H':=HR.upd H hid ev (fun _ _ _=>rfl) hV ⟨none,0,Ï _ _ _,cG _,.inl ⟨rfl,rfl⟩⟩;exact⟨_,_,_,_,rfl,xN hid rfl,H',ev,by rw[Ñ]; exact cG _,hdead _,e⟩
  ·subst hu;rw[q1];have hh:=WS H hl q1 q4;have hcl:=Lib.compact_length_le (xs:List Int);refine(FO fun D=>AnyS.slices_Compact_int_in L D b off cap xs w hh (by omega) q2).mono fun e1 w' hw=>?_;obtain⟨rfl,n,rfl⟩:=hw
   have hrow:=aaf (n:=n) (os:=#[]) (g':=g+1) (xs':=Lib.compact (xs:List Int)) (d:=(Lib.compact (xs:List Int)++List.replicate ((xs:List Int).length-(Lib.compact (xs:List Int)).length) 0).toArray) H hl q1 q4
    (by simpa[Ty.size] using q5) (by omega) (.inl (Nat.lt_succ_self _)) (by simp; omega) (fun i x hi=>by
     have:=(cI.1 hi).1;simp only[eD];rw[List.getElem?_append_left this]
     exact hi)
   rw[grow_empty] at hrow;exact⟨_,_,_,_,rfl,xN hid rfl,hrow.2,hrow.1,by rw[Ñ]; exact cG _,hdead _,e⟩
 ·have hu:u=.slice none 0 0:=hx;subst hu;refine(FO fun D=>AnyS.slices_Compact_int_empty_in L D none 0 w).mono fun e1 w' hw=>?_;obtain⟨rfl,rfl⟩:=hw;exact⟨ν,h,.nils,_,rfl,rfl,H,Ev.refl _ _ _ _,cG _,fun _ _ hd=>hd,e⟩
end
end Go.Am
end

noncomputable section
namespace Go.Am
variable [Ghost]
open Go.Sort Go.Shelf Go.Proofs
section
variable {ρ:Type} {ν:Nat→Value} {h:List Blk} {w:World} {P:Program} {r:Ren}
def aiT (L:Lays.n189 P r) {x:AV} {K:AV→List Blk→Option ρ} {q:ρ} (e:QP h x K=some q) (H:HR ν h w) {u:Value} (hx:VR ν h w x u) (hb:∃c,(Body.n189 r).body=some c):FM P (r.f 189) ν h w [u] K q:=by
 refine⟨⟨_,_,L.f189,hb.choose_spec⟩,?_⟩;have hvoid:∀{ν:Nat→Value} {h:List Blk} {w:World},VR ν h w (.tup []) (.tuple #[]):=⟨#[],rfl,trivial⟩;unfold QP at e
 split at e<;>try (cases e; done)
 ·rename_i id g
  split at e<;>try (cases e; done)
  rename_i ty g' xs hl
  split at e<;>try (cases e; done)
  rename_i hgg
  have hgg:g=g':=by simpa using hgg
  subst hgg
  split at e<;>try (cases e; done)
  rename_i ht _;subst ht
  split at e<;>try (cases e; done)
  rename_i hok;simp only[ê,decide_eq_true_eq] at hok;obtain⟨ho,t2,g2,fz2,xs2,hl2,hle,hv2⟩:=hx;rw[hl] at hl2; cases hl2;have hu:=hv2 rfl;have hB:=H.blk id;rw[hl] at hB;obtain⟨base,cap,q1,q2,q3⟩:=hB;have hid:id<h.length:=Ű hl (by simp)
  have hdead:∀B,∀j,j<h.length→lkB h j=.dead→lkB (ð h id B) j=.dead:=fun B j _ hd=>by
   rw[Ó]
   ·exact hd
   ·rintro rfl; rw[hl] at hd; cases hd
  have hlen:(xy (xs:List Int)).length=(xs:List Int).length:=List.length_mergeSort _;rcases q3 with⟨rfl,rfl⟩|⟨b,off,c,e',rfl,q4,q5,q6⟩
  ·have hnil:xs=[]:=cX.1 (by omega);subst hnil
   have hu2:u=.slice none 0 0:=by rw[hu,q1]; rfl
   subst hu2;refine(FO fun D=>AnyS.slices_Sort_int_none_alone L D none 0 w).mono fun e1 w' hw=>?_;obtain⟨rfl,rfl⟩:=hw
   have hV:(Blk.row (.int .i64) g false ([]:List (Val (.int .i64)))).live=true→∀k,Ļ (Value.slice none 0 0) k→((lkB h id).live=true∧Ļ (ν id) k)∨w'.heap.size≤k:=fun _ k hk=>by cases hk
   have ev:=Ev.upd H (B:=.row (.int .i64) g false ([]:List (Val (.int .i64)))) (V:=.slice none 0 0) (w':=w') hid rfl rfl rfl (cG _) (fun _ _ _=>rfl) hV (by
    rw[hl]; exact⟨g,false,_,rfl,cG _,fun _=>⟨by rw[Ï,q1]; rfl,rfl⟩⟩)
   have H':=HR.upd H hid ev (fun _ _ _=>rfl) hV ⟨none,0,Ï _ _ _,cG _,.inl ⟨rfl,rfl⟩⟩
   have h0:xy ([]:List Int)=[]:=by simp[xy]
   exact⟨_,_,_,_,rfl,hvoid,H',ev,by rw[Ñ]; exact cG _,hdead _,(congrArg (fun l:List Int=>K (.tup []) (ð h id (.row (.int .i64) g false (l:List (Val (.int .i64)))))) h0.symm).trans e⟩
  ·subst hu;rw[q1];have hh:=WS H hl q1 q4;refine(FO fun D=>AnyS.slices_Sort_int_alone L D b off cap xs w hh (ď q4) (by omega)).mono fun e1 w' hw=>?_;obtain⟨rfl,n,os,rfl⟩:=hw
   have hrow:=aaf (n:=n) (os:=os) (g':=g) (xs':=xy (xs:List Int)) (d:=(xy (xs:List Int)).toArray) H hl q1 q4
    (by simpa[Ty.size] using q5) (by omega) (.inr ⟨rfl,hlen⟩) (by simp[hlen]; exact q2) (fun i x hi=>by simpa using hi)
   exact⟨_,_,_,_,rfl,hvoid,hrow.2,hrow.1,by rw[Ñ]; exact cG _,hdead _,e⟩
 ·have hu:u=.slice none 0 0:=hx;subst hu;refine(FO fun D=>AnyS.slices_Sort_int_none_alone L D none 0 w).mono fun e1 w' hw=>?_;obtain⟨rfl,rfl⟩:=hw;exact⟨ν,h,.tup [],_,rfl,hvoid,H,Ev.refl _ _ _ _,cG _,fun _ _ hd=>hd,e⟩
end
end Go.Am
end
