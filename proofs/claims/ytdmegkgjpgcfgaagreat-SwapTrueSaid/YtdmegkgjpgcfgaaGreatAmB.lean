/- lemmas -/
import Derived.Test.YtdmegkgjpgcfgaaGreatAmA
import Derived.Laws.StructEq
import Derived.ChangeKeysEq
import Derived.OrdersIn
import Derived.RangeFuncSeq
import Derived.RangeFuncRecord
import Derived.LoopNIn
import Derived.RangeFuncLeaves
set_option linter.all false
set_option linter.unusedSectionVars false
set_option linter.unusedVariables false
set_option linter.unusedSimpArgs false
noncomputable section
namespace Go.Am
variable [Ghost]
section
variable {ν ν':Nat→Value} {h h':List Blk} {w w':World} {P:Program}
def aad {t:TypeId} {n o:Nat} {d:TypeDesc} (hd:P.underlying t=some d) (hs:szP P t=some n) (us:Array Value) (h1:NM d=false→n=1) (hl:o+n≤us.size) :
 (part t us o).run P w=.ok (XE (NM d) ((us.toList.drop o).take n)) w:=by
 unfold part;simp only[Sem.run_bind,xB hd,Result.andThen_ok]
 cases hagg:NM d with
 |true =>
  simp only[if_true,Sem.run_bind,mz hs,Result.andThen_ok,Sem.run_pure,XE];congr 2;apply fh;rw[Array.toList_extract,List.extract_eq_take_drop];congr 1; omega
 |false =>
  have hn:=h1 hagg;subst hn
  have hlt:o<us.size:=by omega
  have hget:us[o]?=some us[o]:=by simp[hlt]
  have hdr:us.toList.drop o=us[o]::us.toList.drop (o+1):=by
   rw[dE (by simpa using hlt)]; simp
  simp[hget,XE,hdr]
def aju:∀(n d:Nat) (t:TypeId) (cs ds:List AV) (rest:Option Bool) (r:Bool),n≤d→ajv P n t cs ds rest=some r →
 ∃e r',rest=some r'∧r=(e&&r')∧∃D,P.underlying t=some D∧(NM D=false→cs.length=1)∧∀us ws,ý (VRc ν h w) cs us→ý (VRc ν h w) ds ws→(Op.equalIn d t (XE (NM D) us) (XE (NM D) ws)).run P w=.ok e w:=by
 intro n
 induction n with
 |zero=>intro d t cs ds rest r _ e; cases e
 |succ n ih =>
  intro d t cs ds rest r hnd e;obtain⟨d,rfl⟩:∃d',d=d'+1:=⟨d-1,by omega⟩;unfold ajv at e
  split at e<;>try (cases e; done)
  ·rename_i hu
   split at e<;>try (cases e; done)
   rename_i a b
   split at e<;>try (cases e; done)
   rename_i r';cases e;refine⟨_,r',rfl,rfl,_,hu,fun _=>rfl,fun us ws h1 h2=>?_⟩;obtain⟨u,rfl,g1⟩:=h1.one;obtain⟨v,rfl,g2⟩:=h2.one;have e1:u=.bool a:=g1.1;have e2:v=.bool b:=g2.1;subst e1 e2;exact run_equalIn_bool' w d t a b hu
  ·rename_i i hu
   split at e<;>try (cases e; done)
   rename_i k a k' b
   split at e<;>try (cases e; done)
   rename_i hk _;subst hk
   split at e<;>try (cases e; done)
   rename_i r';cases e;refine⟨_,r',rfl,rfl,_,hu,fun _=>rfl,fun us ws h1 h2=>?_⟩;obtain⟨u,rfl,g1⟩:=h1.one;obtain⟨v,rfl,g2⟩:=h2.one;have e1:u=.int k a:=g1.1;have e2:v=.int k b:=g2.1;subst e1 e2;have:=run_equalIn_int w d t k i a b hu
   rw[show(a==b)=decide (a=b) from by by_cases hab:a=b<;>simp[hab]] at this
   exact this
  ·rename_i fs hu
   split at e<;>try (cases e; done)
   rename_i hst
   have key:∀(l:List Field) (r:Bool),eqFs P (ajv P n) cs ds l rest=some r→∃e r',rest=some r'∧r=(e&&r')∧∀us ws:Array Value,ý (VRc ν h w) cs us.toList→ý (VRc ν h w) ds ws.toList→(Op.eqFields d us ws l).run P w=.ok e w:=by
    intro l
    induction l with
    |nil=>intro r e; exact⟨true,r,e,by simp,fun us ws _ _=>rfl⟩
    |cons f l ihl =>
     intro r e;unfold eqFs at e
     split at e
     ·rename_i hnm;obtain⟨e',r',h1,h2,h3⟩:=ihl r e;refine⟨e',r',h1,h2,fun us ws q1 q2=>?_⟩
      have : ¬ (f.name ≠ "_") := by simpa using hnm
      simp only[Op.eqFields,if_neg this];exact h3 us ws q1 q2
     ·rename_i hnm
      split at e<;>try (cases e; done)
      rename_i m hm
      split at e<;>try (cases e; done)
      rename_i x y hx hy;obtain⟨e1,r1,h1,h2,D,hD,hag,h3⟩:=ih d f.type x y _ r (by omega) e;obtain⟨e2,r2,h4,h5,h6⟩:=ihl r1 h1;refine⟨e1&&e2,r2,h4,by rw[h2,h5,Bool.and_assoc],fun us ws q1 q2=>?_⟩;obtain⟨g1,g2⟩:=ou hx;obtain⟨g3,g4⟩:=ou hy
      have hnn : f.name ≠ "_" := by simpa using hnm
      have fit:∀{l:List AV} {us:Array Value} {z:List AV},ý (VRc ν h w) l us.toList→z=(l.drop f.offset).take m→z.length=m→f.offset+m≤us.size∨m=0:=fun {l us z} q e1 e2=>by
       have:=q.length;rw[e1] at e2;simp at e2 this;omega
      have hm1:NM D=false→m=1:=fun hf=>by rw[←g2]; exact hag hf
      have rp:∀{l:List AV} {us:Array Value} {z:List AV},ý (VRc ν h w) l us.toList→z=(l.drop f.offset).take m→z.length=m→(part f.type us f.offset).run P w=.ok (XE (NM D) ((us.toList.drop f.offset).take m)) w:=fun {l us z} q e1 e2=>by
       rcases fit q e1 e2 with hf|hf
       ·exact aad hD hm us hm1 hf
       ·subst hf
        have hagg:NM D=true:=by cases hq:NM D with
         |true=>rfl
         |false=>exact absurd (hm1 hq) (by simp)
        unfold part;simp only[Sem.run_bind,xB hD,Result.andThen_ok,hagg,if_true,mz hm,Sem.run_pure,XE];congr 2;apply Array.ext';simp
      have p1:=rp q1 g1 g2;have p2:=rp q2 g3 g4;have h3':=h3 ((us.toList.drop f.offset).take m) ((ws.toList.drop f.offset).take m) (by rw[g1]; exact(q1.drop _).take _) (by rw[g3]; exact(q2.drop _).take _);have h6':=h6 us ws q1 q2;simp only[Op.eqFields,if_pos hnn,Sem.run_bind,p1,p2,Result.andThen_ok,h3']
      cases e1 with
      |true=>simp[h6']
      |false=>simp
   obtain⟨e',r',h1,h2,h3⟩:=key _ r e;refine⟨e',r',h1,h2,_,hu,fun hf=>by simp[NM] at hf,fun us ws q1 q2=>?_⟩
   have hf:P.fieldsOf t=fs:=by simp[Program.fieldsOf,hu]
   show(Op.equalIn (d+1) t (.agg us.toArray) (.agg ws.toArray)).run P w=_;rw[run_equalIn_struct w d t _ _ (by rw[hf]; exact hu) hst,hf];exact h3 us.toArray ws.toArray (by simpa using q1) (by simpa using q2)
  ·rename_i len el hu
   split at e<;>try (cases e; done)
   rename_i m hm
   have key:∀(l:List Nat) (r:Bool),eqIs P (ajv P n) el m cs ds l rest=some r→∃e r',rest=some r'∧r=(e&&r')∧∀us ws:Array Value,ý (VRc ν h w) cs us.toList→ý (VRc ν h w) ds ws.toList→(Op.eqItems d el m us ws l).run P w=.ok e w:=by
    intro l
    induction l with
    |nil=>intro r e; exact⟨true,r,e,by simp,fun us ws _ _=>rfl⟩
    |cons i l ihl =>
     intro r e;unfold eqIs at e
     split at e<;>try (cases e; done)
     rename_i x y hx hy;obtain⟨e1,r1,h1,h2,D,hD,hag,h3⟩:=ih d el x y _ r (by omega) e;obtain⟨e2,r2,h4,h5,h6⟩:=ihl r1 h1;refine⟨e1&&e2,r2,h4,by rw[h2,h5,Bool.and_assoc],fun us ws q1 q2=>?_⟩;obtain⟨g1,g2⟩:=ou hx;obtain⟨g3,g4⟩:=ou hy
     have fit:∀{l:List AV} {us:Array Value} {z:List AV},ý (VRc ν h w) l us.toList→z=(l.drop (i*m)).take m→z.length=m→(i*m)+m≤us.size∨m=0:=fun {l us z} q e1 e2=>by
      have:=q.length;rw[e1] at e2;simp at e2 this;omega
     have hm1:NM D=false→m=1:=fun hf=>by rw[←g2]; exact hag hf
     have rp:∀{l:List AV} {us:Array Value} {z:List AV},ý (VRc ν h w) l us.toList→z=(l.drop (i*m)).take m→z.length=m→(part el us (i*m)).run P w=.ok (XE (NM D) ((us.toList.drop (i*m)).take m)) w:=fun {l us z} q e1 e2=>by
      rcases fit q e1 e2 with hf|hf
      ·exact aad hD hm us hm1 hf
      ·subst hf
       have hagg:NM D=true:=by cases hq:NM D with
        |true=>rfl
        |false=>exact absurd (hm1 hq) (by simp)
       unfold part;simp only[Sem.run_bind,xB hD,Result.andThen_ok,hagg,if_true,mz hm,Sem.run_pure,XE];congr 2;apply Array.ext';simp
     have p1:=rp q1 g1 g2;have p2:=rp q2 g3 g4;have h3':=h3 ((us.toList.drop (i*m)).take m) ((ws.toList.drop (i*m)).take m) (by rw[g1]; exact(q1.drop _).take _) (by rw[g3]; exact(q2.drop _).take _);have h6':=h6 us ws q1 q2;simp only[Op.eqItems,Sem.run_bind,p1,p2,Result.andThen_ok,h3']
     cases e1 with
     |true=>simp[h6']
     |false=>simp
   obtain⟨e',r',h1,h2,h3⟩:=key _ r e;refine⟨e',r',h1,h2,_,hu,fun hf=>by simp[NM] at hf,fun us ws q1 q2=>?_⟩
   obtain⟨inf,hinf,hsz⟩:∃inf,P.info? el=some inf∧inf.size=m:=by
    unfold szP at hm
    split at hm
    ·cases hm; exact⟨_,‹_›,rfl⟩
    ·cases hm
   have hco:P.cellsOf el=m:=by simp[Program.cellsOf,hinf,hsz]
   show(Op.equalIn (d+1) t (.agg us.toArray) (.agg ws.toArray)).run P w=_;rw[run_equalIn_array w d us.toArray ws.toArray hu hinf,hco];exact h3 us.toArray ws.toArray (by simpa using q1) (by simpa using q2)
def ahS {op:BinOp} {t:TypeId} {x y v:AV} {ux uy:Value} (X Y:Operand) (H:HR ν h w) (e:binK P op t x y some=some v) (hx:VR ν h w x ux) (hy:VR ν h w y uy) :
 ξ P ν h w (do eqGuard op t X Y ux uy; binOp op t ux uy) v h:=by
 unfold binK at e
 split at e
 ·rename_i k a k' b;have h1:ux=.int k a:=hx;have h2:uy=.int k' b:=hy;subst h1 h2
  split at e
  ·rename_i l hl
   have hg:(eqGuard op t X Y (.int k a) (.int k' b)).run P w=.ok () w:=by cases op<;>simp[eqGuard]
   unfold shK at e
   split at e<;>try (cases e; done)
   rename_i hb
   have hb:¬b<0:=by have:=of_decide_eq_true hb; omega
   split at e
   ·cases e;refine ξ.still H (u:=.int k (shlI k a b)) ?_ rfl;rw[Sem.run_bind,hg,Result.andThen_ok]
    cases op<;>simp only[Y7,Option.some.injEq,reduceCtorEq] at hl
    simp[binOp,Op.shift,hb,shlI]
   ·cases e;refine ξ.still H (u:=.int k (iC k a b)) ?_ rfl;rw[Sem.run_bind,hg,Result.andThen_ok]
    cases op<;>simp only[Y7,Option.some.injEq,reduceCtorEq] at hl
    simp[binOp,Op.shift,hb,iC]
  rename_i hns
  split at e<;>try (cases e; done)
  rename_i hk _;subst hk
  have hg:(eqGuard op t X Y (.int k a) (.int k b)).run P w=.ok () w:=by cases op<;>simp[eqGuard]
  split at e
  ·rename_i r hr;cases e;refine ξ.still H (u:=.bool r) ?_ rfl;rw[Sem.run_bind,hg,Result.andThen_ok]
   cases op<;>simp only[cmpI,reduceCtorEq,Option.some.injEq] at hr<;>subst hr<;>simp[binOp,Op.intCmp]
  ·split at e
   ·rename_i r hr;rw[T0 e];refine ξ.still H (u:=.int k (k.wrap r)) ?_ rfl;rw[Sem.run_bind,hg,Result.andThen_ok]
    cases op<;>simp only[arI,reduceCtorEq,Option.some.injEq] at hr<;>subst hr<;>simp[binOp,Op.intArith]
   ·split at e<;>try (cases e; done)
    ·split at e<;>try (cases e; done)
     rename_i hb
     have hb:¬b=0:=by simpa using hb
     rw[T0 e];refine ξ.still H (u:=.int k (k.wrap (a.tdiv b))) ?_ rfl;rw[Sem.run_bind,hg,Result.andThen_ok];simp[binOp,Op.intDiv,hb]
    ·split at e<;>try (cases e; done)
     rename_i hb
     have hb:¬b=0:=by simpa using hb
     cases e;refine ξ.still H (u:=.int k (a.tmod b)) ?_ rfl;rw[Sem.run_bind,hg,Result.andThen_ok];simp[binOp,Op.intDiv,hb]
    ·cases e;refine ξ.still H (u:=.int k (andI k a b)) ?_ rfl;rw[Sem.run_bind,hg,Result.andThen_ok];simp[binOp,Op.intBits,andI,agt]
    ·cases e;refine ξ.still H (u:=.int k (orI k a b)) ?_ rfl;rw[Sem.run_bind,hg,Result.andThen_ok];simp[binOp,Op.intBits,orI,agt]
    ·cases e;refine ξ.still H (u:=.int k (xorI k a b)) ?_ rfl;rw[Sem.run_bind,hg,Result.andThen_ok];simp[binOp,Op.intBits,xorI,agt]
    ·cases e;refine ξ.still H (u:=.int k (Hz k a b)) ?_ rfl;rw[Sem.run_bind,hg,Result.andThen_ok];simp[binOp,Op.intBits,Hz,agt]
 ·rename_i a b;have h1:ux=.bool a:=hx;have h2:uy=.bool b:=hy;subst h1 h2
  split at e<;>try (cases e; done)
  rename_i hu
  have hg:(eqGuard op t X Y (.bool a) (.bool b)).run P w=.ok () w:=by cases op<;>simp[eqGuard]
  have he:(Op.equalIn 10000 t (.bool a) (.bool b)).run P w=.ok (a==b) w:=run_equalIn_bool' w 9999 t a b hu
  split at e<;>try (cases e; done)
  ·cases e;refine ξ.still H (u:=.bool (a==b)) ?_ rfl;rw[Sem.run_bind,hg,Result.andThen_ok];simp[binOp,Op.equal,Op.maxDepth,he]
  ·cases e;refine ξ.still H (u:=.bool (!(a==b))) ?_ rfl;rw[Sem.run_bind,hg,Result.andThen_ok];simp[binOp,Op.equal,Op.maxDepth,he]
 ·rename_i a b;have h1:ux=.string a:=hx;have h2:uy=.string b:=hy;subst h1 h2
  have hg:(eqGuard op t X Y (.string a) (.string b)).run P w=.ok () w:=by cases op<;>simp[eqGuard]
  split at e<;>try (cases e; done)
  ·cases e;refine ξ.still H (u:=.bool (a.toList==b.toList)) ?_ rfl;rw[Sem.run_bind,hg,Result.andThen_ok];simp[binOp,Op.stringOp]
  ·cases e;refine ξ.still H (u:=.bool (!(a.toList==b.toList))) ?_ rfl;rw[Sem.run_bind,hg,Result.andThen_ok];simp[binOp,Op.stringOp]
 ·rename_i cs ds;obtain⟨us,rfl,h1⟩:=hx;obtain⟨ws,rfl,h2⟩:=hy
  split at e<;>try (cases e; done)
  rename_i hst
  split at e<;>try (cases e; done)
  rename_i hgt
  split at e<;>try (cases e; done)
  rename_i r hr;obtain⟨e',r',h3,h4,D,hD,hag,h5⟩:=aju (ν:=ν) (h:=h) (w:=w) 8 10000 t cs ds _ r (by omega) hr;cases h3;rw[Bool.and_true] at h4;subst h4;have h6:=h5 us.toList ws.toList h1 h2
  have hagg:NM D=true:=by rw[hD] at hst; cases D<;>first|rfl|(simp[aggT] at hst; done)
  rw[hagg] at h6
  have h6:(Op.equalIn 10000 t (.agg us) (.agg ws)).run P w=.ok r w:=by simpa[XE] using h6
  split at e<;>try (cases e; done)
  ·cases e;refine ξ.still H (u:=.bool r) ?_ rfl;rw[Sem.run_bind,run_eqGuard_agg w _ t X Y us ws hgt,Result.andThen_ok,run_eql_struct,h6]; rfl
  ·cases e;refine ξ.still H (u:=.bool (!r)) ?_ rfl;rw[Sem.run_bind,run_eqGuard_agg w _ t X Y us ws hgt,Result.andThen_ok,run_neq_struct,h6]; rfl
 ·cases e
def adi {op:UnOp} {x v:AV} {ux:Value} (H:HR ν h w) (hx:VR ν h w x ux)
 (e:(match op,x with|.not,.bool b=>some (AV.bool (!b))|.neg,.int k n=>arK k (0-n) some|_,_=>none)=some v):ξ P ν h w (Op.unary op ux) v h:=by
 split at e<;>try (cases e; done)
 ·cases e;rename_i b hx;have:ux=.bool b:=hx;subst this;exact ξ.still H rfl rfl
 ·rename_i k n hx;have:ux=.int k n:=hx;subst this;rw[T0 e];exact ξ.still H (u:=.int k (k.wrap (0-n))) rfl rfl
end
end Go.Am
end

noncomputable section
namespace Go.Am
variable [Ghost]
section
variable {ν ν':Nat→Value} {h h':List Blk} {w w':World} {P:Program}
def Pz (b:AV):∀(as:List AV) (h:List Blk),ÿ (AC h as) b=ÿ h b
 |[],_=>rfl
 |a::as,h=>by rw[AC,Pz b as,FU]
def AE.mono {av av':Nat→Prop} (hm:∀b,av' b→av b) {t:Ty} {xs:List (Val t)} {news:List Value} (hr:AE w av t xs news):AE w av' t xs news :=
 ⟨hr.1,fun i x hi=>CR.mono hm (hr.2 i x hi)⟩
def MS {a:AV} {id:Nat} {h:List Blk} (hl:lkB h id=.dead):lkB (qG h a) id=.dead:=by
 have key:∀(j g:Nat) (t:Ty) (fz:Bool) (xs:List (Val t)),lkB h j=.row t g fz xs→lkB (ð h j (.row t g true xs)) id=.dead:=fun j g t fz xs hr=>by
  by_cases hj:id=j
  ·subst hj; rw[hl] at hr; cases hr
  ·rw[Ó _ hj]; exact hl
 cases a<;>try exact hl
 all_goals
  simp only[qG]
  split
  ·exact key _ _ _ _ _ ‹_›
  ·exact hl
def MO {id:Nat}:∀(as:List AV) {h:List Blk},lkB h id=.dead→lkB (AC h as) id=.dead
 |[],_,hl=>hl
 |_::as,_,hl=>MO as (MS hl)
def aaU {v:AV} {id:Nat} {h:List Blk} (hl:lkB h id=.dead):lkB (frz h v) id=.dead:=by
 unfold frz; split
 ·exact MO _ hl
 ·exact MS hl
def MP {id:Nat}:∀(ps:List (Nat×AV)) {h:List Blk},lkB h id=.dead→lkB (frzA h ps) id=.dead
 |[],_,hl=>hl
 |(_,_)::ps,_,hl=>MP ps (aaU hl)
def aag {h0:List Blk} {ty:Ty}:∀(ps:List (Nat×AV)) (us:List (Nat×Value)) (k:Nat) (c:Array Value) (xs:List (Val ty)) (h:List Blk),(∀b,ÿ h b=ÿ h0 b)→HR ν h w→NP h0 ty k ps=some xs →
 ý (fun(a:Nat×AV) (b:Nat×Value)=>a.1=b.1∧VR ν h w a.2 b.2) ps us→(k+ps.length)*ty.size≤c.size →
 ∃c' news,Instr.fill (fun i=>some (i*ty.size,ty.size)) c us=some c'∧c'.toList=c.toList.take (k*ty.size)++news++c.toList.drop ((k+ps.length)*ty.size)∧AE w (Av ν (frzA h ps)) ty xs news∧xs.length=ps.length ∧
  Ev h.length ν h w ν (frzA h ps) w∧HR ν (frzA h ps) w∧(∀b,Av ν (frzA h ps) b→Av ν h b)∧(frzA h ps).length=h.length
 |[],[],k,c,xs,h,hsn,H,e,_,_=>by
  cases e;exact⟨c,[],rfl,by simp,⟨by simp,fun i x hi=>by simp at hi⟩,rfl,Ev.refl _ _ _ _,H,fun _ hb=>hb,rfl⟩
 |[],_::_,_,_,_,_,_,_,_,hu,_=>hu.elim
 |_::_,[],_,_,_,_,_,_,_,hu,_=>hu.elim
 |(i,v)::ps,(j,u)::us,k,c,xs,h,hsn,H,e,hu,hc=>by
  obtain⟨⟨hij,hvu⟩,hu⟩:=hu;simp only at hij hvu; subst hij;simp only[NP] at e
  split at e<;>try (cases e; done)
  rename_i hik;simp only[cH,beq_iff_eq] at hik;obtain⟨rfl,hnm⟩:=hik
  split at e<;>try (cases e; done)
  rename_i cs hcs
  split at e<;>try (cases e; done)
  rename_i x hx
  split at e<;>try (cases e; done)
  rename_i xs' hxs;cases e;obtain⟨vs,hvs,rfl⟩:=FT hcs;obtain⟨hfe,hfm⟩:=aeT hvs h;have hcx:=hvu.cells hvs;have hs:=EZ H (hcx.mono fun _ _ q=>q.1) (hfm hnm);have hmap:vs.map (ÿ h)=vs.map (ÿ h0):=fo fun b _=>hsn b;rw[hmap] at hs;have hxc:=ğ hx hs;obtain⟨e1,H1,hlv⟩:=CJ vs H;simp only[frzA,hfe]
  have hsz:u.cells.size=ty.size:=by have:=hxc.length; simpa using this
  have hlen:(i+1+ps.length)*ty.size≤c.size:=by rw[show i+1+ps.length=i+(ps.length+1) by omega]; simpa using hc
  have hi:i*ty.size+ty.size≤c.size:=by
   have:=dv ty.size (show i+1≤i+1+ps.length by omega);rw[dl i 1,fq] at this;omega
  have hcl:u.cells.toList.length=ty.size:=by simpa using hsz
  have hcsz:(c.toList.take (i*ty.size)++u.cells.toList++c.toList.drop (i*ty.size+ty.size)).toArray.size=c.size:=by
   simp only[eY,cJ,cZ,gC,fm,hcl]; omega
  obtain⟨c',news,h1,h2,h3,h4,h5,h6,h7,h8⟩:=aag ps us (i+1) (c.toList.take (i*ty.size)++u.cells.toList++c.toList.drop (i*ty.size+ty.size)).toArray xs' (AC h vs)
   (fun b=>(Pz b vs h).trans (hsn b)) H1 hxs (hu.mono fun _ _ q=>⟨q.1,q.2.ev e1⟩) (by rw[hcsz]; exact hlen)
  refine⟨c',u.cells.toList++news,?_,?_,?_,by simp[h4],e1.trans h5 (by rw[ζ]; exact cG _),h6,fun b hb=>hlv b (h7 b hb),by rw[h8,ζ]⟩
  ·rw[yW rfl hsz hi]; exact h1
  ·rw[h2]
   have a1:(c.toList.take (i*ty.size)++u.cells.toList++c.toList.drop (i*ty.size+ty.size)).take ((i+1)*ty.size)=c.toList.take (i*ty.size)++u.cells.toList:=by
    have hl1:(c.toList.take (i*ty.size)++u.cells.toList).length=(i+1)*ty.size:=by
     rw[cJ,cZ,fm,hcl,dl,fq]; omega
    rw[←hl1,List.take_left]
   have a2:(c.toList.take (i*ty.size)++u.cells.toList++c.toList.drop (i*ty.size+ty.size)).drop ((i+1+ps.length)*ty.size)=c.toList.drop ((i+(ps.length+1))*ty.size):=by
    have hl1:(c.toList.take (i*ty.size)++u.cells.toList).length=i*ty.size+ty.size:=by
     rw[cJ,cZ,fm,hcl]; omega
    rw[show(i+1+ps.length)*ty.size=(c.toList.take (i*ty.size)++u.cells.toList).length+ps.length*ty.size by rw[hl1,dl,dl,fq],←fA,List.drop_left,fA];congr 1;rw[dl,dl,fq]; omega
   show(List.take ((i+1)*ty.size) _++news++List.drop ((i+1+ps.length)*ty.size) _)=_;rw[a1,a2];simp
  ·have hone:AE w (Av ν (frzA (AC h vs) ps)) ty [x] u.cells.toList:=⟨by simp[hsz],fun q y hq=>by
    cases q with
    |zero =>
     simp at hq; subst hq;simp only[Nat.zero_mul,gO];rw[dU (by omega)];exact CR.mono h7 hxc
    |succ q=>simp at hq⟩
   exact hone.append h3
def TT {S:St} {a:Act} {nid n:Nat} {t e:TypeId} {ty:Ty} {ps:Array (Nat×Operand)} {xs:List (Val ty)} (H:Sim ν S a w) (hn:nid<S.h.length) (hd:lkB S.h nid=.dead) (he:Ho P t=some e)
 (hrow:Iw P e ty.size=true) (hln:ps.toList.length=n) (hlim:n*ty.size≤65536) (hx:NP S.h ty 0 (ps.toList.map fun p=>(p.1,ev S.t p.2))=some xs) :
 ξ P ν S.h w (Instr.buildSlice t n (ps.map fun(i,x)=>(i,a.eval x))) (.own nid 0) (ð (frzA S.h (ps.toList.map fun p=>(p.1,ev S.t p.2))) nid (.row ty 0 false xs)):=by
 obtain⟨i,z,hi,hsz,hpos,hby,hz,hzs⟩:=kM hrow;have ht:=jK he
 have hcs:((Array.range (n*ty.size)).map (fun j=>(if n*ty.size=0 then(#[]:Array Value) else z.cells)[j % (if n*ty.size=0 then(#[]:Array Value) else z.cells).size]!)).size=n*ty.size:=by simp
 obtain⟨c',news,h1,h2,h3,h4,h5,h6,h7,h8⟩:=aag (ν:=ν) (w:=w) (h0:=S.h) _ (ps.toList.map fun p=>(p.1,a.eval p.2)) 0 ((Array.range (n*ty.size)).map (fun j=>(if n*ty.size=0 then(#[]:Array Value) else z.cells)[j % (if n*ty.size=0 then(#[]:Array Value) else z.cells).size]!)) xs S.h (fun _=>rfl) H.heap hx (Da H ps.toList)
  (by rw[hcs]; simp only[dA]; rw[hln,dw]; exact cG _)
 rw[dA,hln] at h2 h4
 have h2':c'.toList=news:=by
  rw[h2];simp
 have hd':lkB (frzA S.h (ps.toList.map fun p=>(p.1,ev S.t p.2))) nid=.dead:=MP _ hd
 have hnew:=FW (w':=w.alloc (.cells c' e)) h6 (id:=nid) (g':=0) (xs':=xs) (cap':=n) (by rw[h8]; exact hn) (fun V=>by rw[hd']; trivial) rfl rfl rfl rfl (by omega) (by
  have:c'.size=news.length:=by rw[←h2']; simp
  rw[this,h3.1,h4]; exact cG _) h3 (fun j v hj=>by rw[←h2'] at hj; simpa using hj)
 rw[h4] at hnew;refine⟨_,_,_,?_,xN (by rw[h8]; exact hn) rfl,hnew.2,(h5.trans hnew.1 (by rw[h8]; exact cG _)),by rw[Ñ,h8]⟩
 have hp:(ps.map fun(x:Nat×Operand)=>(x.1,a.eval x.2)).toList=ps.toList.map fun p=>(p.1,a.eval p.2):=by simp
 have hlt:¬(16777216<n*ty.size):=by omega
 have h1':Instr.fill (fun i=>some (i*ty.size,ty.size)) ((Array.range (n*ty.size)).map (fun j=>(if n*ty.size=0 then(#[]:Array Value) else z.cells)[j % (if n*ty.size=0 then(#[]:Array Value) else z.cells).size]!)) (ps.map fun(x:Nat×Operand)=>(x.1,a.eval x.2)).toList=some c':=by rw[hp]; exact h1
 simp only[Instr.buildSlice,Sem.run_bind,run_underlying ht,Result.andThen_ok,sizeOf,typeInfo,run_program,hi,Sem.run_pure,hsz];rw[show(2:Nat) ^ 24=16777216 from rfl,if_neg (by omega:¬n*ty.size>16777216)]
 by_cases h0:n*ty.size=0
 ·simp only[h0,if_true,Sem.run_bind,Sem.run_pure,Result.andThen_ok] at h1' ⊢
  erw [h1']
  simp[newRow]
 ·simp only[h0,if_false,Sem.run_bind,zeroValue,typeInfo,run_program,hi,hz,Sem.run_pure,Result.andThen_ok] at h1' ⊢
  erw [h1']
  simp[newRow]
end
end Go.Am
end

noncomputable section
namespace Go.Am
variable [Ghost]
section
variable {ν ν':Nat→Value} {h h':List Blk} {w w':World} {P:Program}
def upd2 (H:HR ν h w) {i j:Nat} {A B:Blk} {U V:Value} (hij:i≠j) (hi:i<h.length) (hj:j<h.length) (hos:w'.os=w.os) (htape:w'.tape=w.tape) (hout:w'.output=w.output)
 (hsize:w.heap.size≤w'.heap.size)
 (hkeep:∀b,b<w.heap.size→((lkB h i).live=true→¬Ļ (ν i) b)→((lkB h j).live=true→¬Ļ (ν j) b)→w'.heap[b]?=w.heap[b]?)
 (hU:A.live=true→∀b,Ļ U b→((lkB h i).live=true∧Ļ (ν i) b)∨((lkB h j).live=true∧Ļ (ν j) b)∨w.heap.size≤b)
 (hV:B.live=true→∀b,Ļ V b→((lkB h i).live=true∧Ļ (ν i) b)∨((lkB h j).live=true∧Ļ (ν j) b)∨w.heap.size≤b)
 (hdis:A.live=true→B.live=true→∀b,Ļ U b→Ļ V b→False)
 (hni:(lkB h i).next ν (ï (ï ν i U) j V) i A) (hnj:(lkB h j).next ν (ï (ï ν i U) j V) j B)
 (hbi:Ev h.length ν h w (ï (ï ν i U) j V) (ð (ð h i A) j B) w'→BR (ï (ï ν i U) j V) (ð (ð h i A) j B) w' i A)
 (hbj:Ev h.length ν h w (ï (ï ν i U) j V) (ð (ð h i A) j B) w'→BR (ï (ï ν i U) j V) (ð (ð h i A) j B) w' j B) :
 Ev h.length ν h w (ï (ï ν i U) j V) (ð (ð h i A) j B) w'∧HR (ï (ï ν i U) j V) (ð (ð h i A) j B) w':=by
 have li:lkB (ð (ð h i A) j B) i=A:=by rw[Ó _ hij,â _ hi]
 have lj:lkB (ð (ð h i A) j B) j=B:=â _ (by rw[Ñ]; exact hj)
 have lo:∀{m},m≠i→m≠j→lkB (ð (ð h i A) j B) m=lkB h m:=fun h1 h2=>by rw[Ó _ h2,Ó _ h1]
 have vi:ï (ï ν i U) j V i=U:=by rw[ė _ _ hij,Ï]
 have vj:ï (ï ν i U) j V j=V:=Ï _ _ _
 have vo:∀{m},m≠i→m≠j→ï (ï ν i U) j V m=ν m:=fun h1 h2=>by rw[ė _ _ h2,ė _ _ h1]
 -- who owns a block now owned it, or it is new
 have own:∀m b,(lkB (ð (ð h i A) j B) m).live=true→Ļ (ï (ï ν i U) j V m) b →
  (∃q,(lkB h q).live=true∧Ļ (ν q) b∧(q=m∨((q=i∨q=j)∧(m=i∨m=j))))∨(w.heap.size≤b∧(m=i∨m=j)):=by
  intro m b hl hb
  by_cases h1:m=i
  ·subst h1;rw[li] at hl; rw[vi] at hb;rcases hU hl b hb with h2|h2|h2
   ·exact .inl ⟨m,h2.1,h2.2,.inl rfl⟩
   ·exact .inl ⟨j,h2.1,h2.2,.inr ⟨.inr rfl,.inl rfl⟩⟩
   ·exact .inr ⟨h2,.inl rfl⟩
  ·by_cases h2:m=j
   ·subst h2;rw[lj] at hl; rw[vj] at hb;rcases hV hl b hb with h2|h2|h2
    ·exact .inl ⟨i,h2.1,h2.2,.inr ⟨.inl rfl,.inr rfl⟩⟩
    ·exact .inl ⟨m,h2.1,h2.2,.inl rfl⟩
    ·exact .inr ⟨h2,.inr rfl⟩
   ·rw[lo h1 h2] at hl; rw[vo h1 h2] at hb;exact .inl ⟨m,hl,hb,.inl rfl⟩
 have ev:Ev h.length ν h w (ï (ï ν i U) j V) (ð (ð h i A) j B) w':=by
  refine⟨hos,htape,hout,hsize,fun b hb hn=>⟨hkeep b hb (fun hl he=>hn ⟨i,hl,he⟩) (fun hl he=>hn ⟨j,hl,he⟩),?_⟩,fun m hm=>?_⟩
  ·rintro⟨m,hl,he⟩;rcases own m b hl he with⟨q,h1,h2,_⟩|⟨h1,_⟩
   ·exact hn ⟨q,h1,h2⟩
   ·omega
  ·by_cases h1:m=i
   ·subst h1; rw[li]; exact hni
   ·by_cases h2:m=j
    ·subst h2; rw[lj]; exact hnj
    ·rw[lo h1 h2]
     cases hB:lkB h m with
     |dead=>trivial
     |cells cs=>exact⟨⟨cs,rfl⟩,vo h1 h2⟩
     |row t g fz xs=>exact⟨g,fz,xs,rfl,cG _,fun _=>⟨vo h1 h2,rfl⟩⟩
     |map k v es=>exact⟨⟨es,rfl⟩,vo h1 h2⟩
     |deep k g xss=>exact⟨g,xss,rfl,cG _,fun _=>⟨vo h1 h2,rfl⟩⟩
     |acc t xs=>exact⟨xs,rfl⟩
 refine⟨ev,fun m=>?_,fun m n b hm hn hbm hbn=>?_,fun b hb=>dc (H.ghlt b hb) hsize,fun m b hl hb hg=>?_⟩
 ·by_cases h1:m=i
  ·subst h1; rw[li]; exact hbi ev
  ·by_cases h2:m=j
   ·subst h2; rw[lj]; exact hbj ev
   ·rw[lo h1 h2];refine BR.ev ev (H.nd ev) (vo h1 h2) (fun b hl hb hlt=>hkeep b hlt (fun hl' hb'=>h1 (H.inj m i b hl hl' hb hb')) (fun hl' hb'=>h2 (H.inj m j b hl hl' hb hb'))) (H.blk m)
 ·-- one owner alone
  have hd:∀{m n b},(m=i∨m=j)→(n=i∨n=j)→(lkB (ð (ð h i A) j B) m).live=true→(lkB (ð (ð h i A) j B) n).live=true→Ļ (ï (ï ν i U) j V m) b→Ļ (ï (ï ν i U) j V n) b→m=n:=by
   intro m n b h1 h2 hm hn hbm hbn
   rcases h1 with rfl|rfl<;>rcases h2 with rfl|rfl
   ·rfl
   ·rw[li] at hm; rw[lj] at hn; rw[vi] at hbm; rw[vj] at hbn;exact(hdis hm hn b hbm hbn).elim
   ·rw[lj] at hm; rw[li] at hn; rw[vj] at hbm; rw[vi] at hbn;exact(hdis hn hm b hbn hbm).elim
   ·rfl
  rcases own m b hm hbm with⟨q,h1,h2,h3⟩|⟨h1,h3⟩
  ·rcases own n b hn hbn with⟨r,h4,h5,h6⟩|⟨h4,h6⟩
   ·have hqr:=H.inj q r b h1 h4 h2 h5;subst hqr;rcases h3 with rfl|⟨h3,h3'⟩
    ·rcases h6 with rfl|⟨h6,h6'⟩
     ·rfl
     ·exact hd h6 h6' hm hn hbm hbn
    ·rcases h6 with rfl|⟨h6,h6'⟩
     ·exact hd h3' h3 hm hn hbm hbn
     ·exact hd h3' h6' hm hn hbm hbn
   ·have:=H.lt ⟨q,h1,h2⟩; omega
  ·rcases own n b hn hbn with⟨r,h4,h5,h6⟩|⟨h4,h6⟩
   ·have:=H.lt ⟨r,h4,h5⟩; omega
   ·exact hd h3 h6 hm hn hbm hbn
 ·rcases own m b hl hb with⟨q,h1,h2,_⟩|⟨h1,_⟩
  ·exact H.ghne q b h1 h2 hg
  ·have:=H.ghlt b hg; omega
def sM {l:List Value} {b:Nat}:Ļ (.agg l.toArray) b↔∃u∈l,kg u=some b:=by
 show(∃u∈l.toArray.toList,kg u=some b)↔_;simp
def agU {k:IntKind} {xss:List (List Int)} {us:List Value} (h:ý (ZM w k) xss us):∀u∈us,u.oneCell'=true:=by
 intro u hu;obtain⟨i,hi,rfl⟩:=cS.1 hu;obtain⟨xs,_,base,cap,e,_⟩:=h.get' (cF hi);rw[e]; rfl
def adH {k:IntKind} {xss:List (List Int)} {us:List Value} (h:ý (ZM w k) xss us):∀u∈us,∀b,kg u=some b→b<w.heap.size:=by
 intro u hu b hb;obtain⟨i,hi,rfl⟩:=cS.1 hu;obtain⟨xs,_,base,cap,e,_,h1⟩:=h.get' (cF hi);rw[e] at hb;rcases h1 with⟨rfl,_⟩|⟨b',off,c,e',rfl,h1,_⟩
 ·cases hb
 ·cases hb; exact ď h1
def ahA (H:HR ν h w) {nid id g n:Nat} {t e:TypeId} {k:IntKind} {xs:List Int} {i:TypeInfo} {z:Value} (hnid:nid<h.length) (hd:lkB h nid=.dead) (ht:P.underlying t=some (.slice e)) (hi:P.info? e=some i) (hsz:i.size=1) (hz:i.zero=some z) (hzs:z.cells.size=1)
 (hl:lkB h id=.row (.int k) g false xs) (hn:n=1) {ux:Value} (hux:ux=ν id) :
 ξ P ν h w (Instr.buildSlice t n #[(0,ux)]) (.dp nid 0) (ð (ð h id (.row (.int k) (g+1) false [])) nid (.deep k 0 [xs])):=by
 subst hn
 have hne:id≠nid:=fun e=>by rw[e,hd] at hl; cases hl
 have hid:id<h.length:=Ű hl (by simp);have hB:=H.blk id;rw[hl] at hB;obtain⟨base,cap,h1,h2,h3⟩:=hB
 have hlive:(lkB h id).live=true:=by rw[hl]; rfl
 have h3':(base=none∧cap=0)∨∃b off c e,base=some ⟨b,off,none⟩∧w.heap[b]?=some (.cells c e (0,0))∧off+cap≤c.size∧∀(j:Nat) (x:Int),xs[j]?=some x→c[off+j]?=some (.int k x):=by
  rcases h3 with h3|⟨b,off,c,e',h3,h4,h5,h6⟩
  ·exact .inl h3
  ·refine .inr ⟨b,off,c,e',h3,h4,by simpa[Ty.size] using h5,fun j x hx=>?_⟩;obtain⟨us,q1,q2⟩:=h6 j x hx;have q1':us=[.int k x]:=q1;subst q1';have:=q2 0 _ rfl;simp only[World.cell?,h4] at this;simpa[Ty.size] using this
 have hone:(ν id).oneCell'=true:=by rw[h1]; rfl
 have hheap:(w.alloc (.cells #[ν id] e)).heap=w.heap.push (.cells #[ν id] e (0,0)):=rfl
 have hpush:∀b,b<w.heap.size→(w.alloc (.cells #[ν id] e)).heap[b]?=w.heap[b]?:=fun b hb=>by rw[hheap,eP]; simp[fD hb]
 obtain⟨ev,hr⟩:=upd2 (w':=w.alloc (.cells #[ν id] e)) (A:=.row (.int k) (g+1) false []) (B:=.deep k 0 [xs]) (U:=.slice none 0 0) (V:=.agg [Value.slice (some ⟨w.heap.size,0,none⟩) 1 1,ν id].toArray) H hne hid hnid rfl rfl rfl (by rw[hheap]; simp)
  (fun b hb _ _=>hpush b hb) (fun _ b hb=>by cases hb)
  (fun _ b hb=>by
   obtain⟨u,hu,hb⟩:=sM.1 hb;simp only[cN,f7,or_false] at hu;rcases hu with rfl|rfl
   ·cases hb; exact .inr (.inr (cG _))
   ·exact .inl ⟨hlive,by rw[h1] at hb ⊢; exact hb⟩)
  (fun _ _ b hb _=>by cases hb)
  (by rw[hl]; exact⟨g+1,false,[],rfl,gq _,fun hf=>by omega⟩) (by rw[hd]; trivial)
  (fun ev=>⟨none,0,by rw[ė _ _ hne,Ï]; rfl,cG _,.inl ⟨rfl,rfl⟩⟩)
  (fun ev=>by
   have hnew:(w.alloc (.cells #[ν id] e)).heap[w.heap.size]?=some (.cells #[ν id] e (0,0)):=by rw[hheap]; simp
   refine⟨some ⟨w.heap.size,0,none⟩,1,[ν id],by rw[Ï]; rfl,by simp,?_,.inr ⟨w.heap.size,0,#[ν id],e,rfl,hnew,by simp,fun m u hm=>?_⟩,⟨base,cap,h1,h2,?_⟩,trivial⟩
   ·refine List.Pairwise.cons (fun v hv b hb hvb=>?_) (fK _ _);simp at hv;subst hv
    obtain rfl:w.heap.size=b:=by simpa[kg] using hb
    have:=H.lt ⟨id,hlive,by rw[h1] at hvb ⊢; exact hvb⟩;omega
   ·cases m with
    |zero=>simpa using hm
    |succ m=>simp at hm
   ·rcases h3' with h3|⟨b,off,c,e',h3,h4,h5⟩
    ·exact .inl h3
    ·exact .inr ⟨b,off,c,e',h3,by
      rw[hpush b (ď h4),h4],h5⟩)
 refine⟨_,w.alloc (.cells #[ν id] e),.slice (some ⟨w.heap.size,0,none⟩) 1 1,?_,⟨rfl,k,0,[xs],?_,cG _,fun _=>⟨[ν id],Ï _ _ _⟩⟩,hr,ev,by rw[Ñ,Ñ]⟩
 ·subst hux;simp only[Instr.buildSlice,Sem.run_bind,run_underlying ht,Result.andThen_ok,sizeOf,typeInfo,run_program,hi,Sem.run_pure,hsz];rw[show(2:Nat) ^ 24=16777216 from rfl,if_neg (by omega:¬1*1>16777216)];simp only[fY,Nat.one_ne_zero,if_false,Sem.run_bind,zeroValue,typeInfo,run_program,hi,hz,Sem.run_pure,Result.andThen_ok]
  have hfill:Instr.fill (fun i=>some (i*1,1)) ((Array.range 1).map (fun j=>z.cells[j % z.cells.size]!)) [(0,ν id)]=some #[ν id]:=by
   have:=yW (place:=fun i=>some (i*1,1)) (cells:=(Array.range 1).map (fun j=>z.cells[j % z.cells.size]!)) (i:=0) (v:=ν id) (rest:=[]) (off:=0) (size:=1) rfl (by have:=qD hone; simpa using congrArg List.length this) (by simp);rw[this];have hc:=qD hone;simp[Instr.fill,hc]
  simp only[fY] at hfill
  erw [hfill]
  simp[newRow]
 ·exact â _ (by rw[Ñ]; exact hnid)
def Ul (H:HR ν h w) {G:Nat→Prop} {id g:Nat} {k:IntKind} {xss:List (List Int)} (hl:lkB h id=.deep k g xss) {v:Value} (hv:∃us,ν id=.agg (v::us).toArray) (hG:∀b,Ļ (ν id) b→¬G b) :
 CR w G (.slice (.slice (.int k))) xss [v]:=by
 obtain⟨us,hν⟩:=hv;obtain⟨base,cap,us',h1,h2,_,h3,h4⟩:=H.table hl;have h1':=h1;rw[hν] at h1;have q:=lZ h1
 injection q with q1 q2
 subst q1 q2;have own:∀u∈Value.slice base xss.length cap::us,∀b,kg u=some b→¬G b:=fun u hu b hb=>hG b (by rw[h1']; exact⟨u,by simpa using hu,hb⟩);refine⟨base,cap,rfl,h2,?_⟩;rcases h3 with⟨rfl,rfl⟩|⟨b,off,c,e,rfl,h5,h6,h7⟩
 ·exact .inl (cX.1 (by omega))
 ·refine .inr ⟨b,off,rfl,own _ (.head _) b rfl,ď h5,fun i xs hx=>?_⟩;obtain⟨u,hu,hr⟩:=h4.get hx;refine⟨[u],?_,fun j y hj=>?_⟩
  ·obtain⟨base2,cap2,rfl,h8,h9⟩:=hr;refine⟨base2,cap2,rfl,h8,?_⟩;rcases h9 with⟨rfl,rfl⟩|⟨b2,off2,c2,e2,rfl,h10,h11,h12⟩
   ·exact .inl (cX.1 (by omega))
   ·refine .inr ⟨b2,off2,rfl,own _ (.tail _ (cO hu)) b2 rfl,ď h10,fun m x hm=>⟨[.int k x],rfl,fun j y hj=>?_⟩⟩
    cases j with
    |zero =>
     simp at hj;subst hj;simp only[World.cell?,h10];have:=h12 m x hm;simpa[Ty.size] using this
    |succ j=>simp at hj
  ·cases j with
   |zero =>
    simp at hj;subst hj;simp only[World.cell?,h5];have:=h7 i _ hu;simpa[Ty.size] using this
   |succ j=>simp at hj
def ahz (H:HR ν h w) {nid id g n:Nat} {t e:TypeId} {k:IntKind} {xss:List (List Int)} {i:TypeInfo} {z:Value} (hnid:nid<h.length) (hd:lkB h nid=.dead) (ht:P.underlying t=some (.slice e)) (hi:P.info? e=some i) (hsz:i.size=1) (hz:i.zero=some z) (hzs:z.cells.size=1)
 (hl:lkB h id=.deep k g xss) (hn:n=1) {ux:Value} (hux:∃us,ν id=.agg (ux::us).toArray) :
 ξ P ν h w (Instr.buildSlice t n #[(0,ux)]) (.own nid 0) (ð (ð h id (.deep k (g+1) [])) nid (.row (.slice (.slice (.int k))) 0 false [xss])):=by
 subst hn;have hux0:=hux;obtain⟨us,hux⟩:=hux
 have hne:id≠nid:=fun e=>by rw[e,hd] at hl; cases hl
 have hid:id<h.length:=Ű hl (by simp)
 have hlive:(lkB h id).live=true:=by rw[hl]; rfl
 have hone:ux.oneCell'=true:=by
  obtain⟨base,cap,us',h1,_⟩:=H.table hl;rw[hux] at h1;have q:=lZ h1
  injection q with q1 q2
  rw[q1]; rfl
 have hheap:(w.alloc (.cells #[ux] e)).heap=w.heap.push (.cells #[ux] e (0,0)):=rfl
 have hpush:∀b,b<w.heap.size→(w.alloc (.cells #[ux] e)).heap[b]?=w.heap[b]?:=fun b hb=>by rw[hheap,eP]; simp[fD hb]
 have hnew:(w.alloc (.cells #[ux] e)).heap[w.heap.size]?=some (.cells #[ux] e (0,0)):=by rw[hheap]; simp
 obtain⟨ν',hν'⟩:∃ν',ν'=ï (ï ν id (.agg [Value.slice none 0 0].toArray)) nid (.slice (some ⟨w.heap.size,0,none⟩) 1 1):=⟨_,rfl⟩;obtain⟨h',hh'⟩:∃h',h'=ð (ð h id (.deep k (g+1) [])) nid (.row (.slice (.slice (.int k))) 0 false [xss]):=⟨_,rfl⟩
 have noav:∀b,Ļ (ν id) b→¬Av ν' h' b:=by
  intro b hb;rintro(⟨m,hm,hb'⟩|hg)
  ·by_cases e1:m=nid
   ·subst e1;rw[hν',Ï] at hb';obtain rfl:w.heap.size=b:=Option.some.inj hb';have:=H.lt ⟨id,hlive,hb⟩;omega
   ·rw[hν',ė _ _ e1] at hb';rw[hh',Ó _ e1] at hm
    by_cases e2:m=id
    ·subst e2;rw[Ï] at hb';obtain⟨u,hu,hb'⟩:=sM.1 hb';simp at hu;subst hu;cases hb'
    ·rw[ė _ _ e2] at hb';rw[Ó _ e2] at hm;exact e2 (H.inj m id b hm hlive hb' hb)
  ·exact H.ghne id b hlive hb hg
 have hcr:CR (w.alloc (.cells #[ux] e)) (Av ν' h') (.slice (.slice (.int k))) xss [ux]:=CR.keep (fun b hb hn=>⟨hpush b hb,hn⟩) (Ul H hl hux0 noav)
 obtain⟨ev,hr⟩:=upd2 (w':=w.alloc (.cells #[ux] e)) (A:=.deep k (g+1) []) (B:=.row (.slice (.slice (.int k))) 0 false [xss]) (U:=.agg [Value.slice none 0 0].toArray) (V:=.slice (some ⟨w.heap.size,0,none⟩) 1 1) H hne hid hnid rfl rfl rfl (by rw[hheap]; simp)
  (fun b hb _ _=>hpush b hb)
  (fun _ b hb=>by
   obtain⟨u,hu,hb⟩:=sM.1 hb;simp at hu;subst hu
   cases hb)
  (fun _ b hb=>by
   obtain rfl:w.heap.size=b:=Option.some.inj hb
   exact .inr (.inr (cG _)))
  (fun _ _ b hb _=>by
   obtain⟨u,hu,hb⟩:=sM.1 hb;simp at hu;subst hu
   cases hb)
  (by rw[hl]; exact⟨g+1,[],rfl,gq _,fun hf=>by omega⟩) (by rw[hd]; trivial)
  (fun ev=>⟨none,0,[],by rw[ė _ _ hne,Ï]; rfl,cG _,fK _ _,.inl ⟨rfl,rfl⟩,trivial⟩)
  (fun ev=>by
   rw[←hν',←hh'];refine⟨some ⟨w.heap.size,0,none⟩,1,by rw[hν',Ï]; rfl,by simp,.inr ⟨w.heap.size,0,#[ux],e,rfl,hnew,by simp[Ty.size],fun m x hm=>?_⟩⟩
   cases m with
   |zero =>
    simp at hm;subst hm;refine⟨[ux],hcr,?_⟩;have:=CellsAt.of_cells hnew;simpa using this
   |succ m=>simp at hm)
 refine⟨_,w.alloc (.cells #[ux] e),.slice (some ⟨w.heap.size,0,none⟩) 1 1,?_,⟨rfl,.slice (.slice (.int k)),0,false,[xss],?_,cG _,fun _=>(Ï _ _ _).symm⟩,hr,ev,by rw[Ñ,Ñ]⟩
 ·simp only[Instr.buildSlice,Sem.run_bind,run_underlying ht,Result.andThen_ok,sizeOf,typeInfo,run_program,hi,Sem.run_pure,hsz];rw[show(2:Nat) ^ 24=16777216 from rfl,if_neg (by omega:¬1*1>16777216)];simp only[fY,Nat.one_ne_zero,if_false,Sem.run_bind,zeroValue,typeInfo,run_program,hi,hz,Sem.run_pure,Result.andThen_ok]
  have hfill:Instr.fill (fun i=>some (i*1,1)) ((Array.range 1).map (fun j=>z.cells[j % z.cells.size]!)) [(0,ux)]=some #[ux]:=by
   have:=yW (place:=fun i=>some (i*1,1)) (cells:=(Array.range 1).map (fun j=>z.cells[j % z.cells.size]!)) (i:=0) (v:=ux) (rest:=[]) (off:=0) (size:=1) rfl (by have:=qD hone; simpa using congrArg List.length this) (by simp);rw[this];have hc:=qD hone;simp[Instr.fill,hc]
  simp only[fY] at hfill
  erw [hfill]
  simp[newRow]
 ·exact â _ (by rw[Ñ]; exact hnid)
def XR {k:IntKind} {base:Option Addr} {cap:Nat} {xss:List (List Int)} {us:List Value} (h10:ý (ZM w k) xss us)
 (h9:(base=none∧cap=0)∨∃b off c e,base=some ⟨b,off,none⟩∧w.heap[b]?=some (.cells c e (0,0))∧off+cap≤c.size∧∀(i:Nat) (u:Value),us[i]?=some u→c[off+i]?=some u) (hc:xss.length≤cap) :
 (∀a,base=some a→∀j u,us[j]?=some u→w.cell? (a.add j)=some u)∧(base=none→us=[]):=by
 constructor
 ·intro a ha j u hj;rcases h9 with⟨h9,_⟩|⟨b,off,c,e,h9,h11,_,h13⟩
  ·rw[h9] at ha; cases ha
  ·rw[h9] at ha; cases ha;rw[ņ];simp only[World.cell?,h11];exact h13 j u hj
 ·intro hb;rcases h9 with⟨_,h9⟩|⟨b,off,c,e,h9,_⟩
  ·have:=h10.length;exact cX.1 (by omega)
  ·rw[hb] at h9; cases h9
def TH (H:HR ν h w) {j id2:Nat} (hne:id2≠j) (hj:j<h.length) {k:IntKind} {g2 g':Nat} {xss yss:List (List Int)} (hl2:lkB h id2=.deep k g2 yss) {base2:Option Addr} {cap2:Nat} {us us2:List Value} (hν2:ν id2=.agg (Value.slice base2 yss.length cap2::us2).toArray)
 (hnext:∀W,(lkB h j).next ν W j (.deep k g' (xss++yss)))
 (hrows:ý (ZM w k) xss us) (hus:∀u∈us,∀b,kg u=some b→(lkB h j).live=true∧Ļ (ν j) b) (hap:XD us)
 {base':Option Addr} {cap':Nat} {w':World} (hcap:xss.length+yss.length≤cap') (hos:w'.os=w.os) (htape:w'.tape=w.tape) (hout:w'.output=w.output) (hsize:w.heap.size≤w'.heap.size)
 (hblk:∀b,kg (.slice base' (xss.length+yss.length) cap')=some b→((lkB h j).live=true∧Ļ (ν j) b∧∀u∈us,kg u≠some b)∨w.heap.size≤b)
 (hkeep:∀b,b<w.heap.size→kg (.slice base' (xss.length+yss.length) cap')≠some b→w'.heap[b]?=w.heap[b]?)
 (hcells:(base'=none∧cap'=0)∨∃b off c e,base'=some ⟨b,off,none⟩∧w'.heap[b]?=some (.cells c e (0,0))∧off+cap'≤c.size∧∀(m:Nat) (u:Value),(us++us2)[m]?=some u→c[off+m]?=some u) :
 Ev h.length ν h w (ï (ï ν id2 (.agg [Value.slice none 0 0].toArray)) j (.agg (Value.slice base' (xss.length+yss.length) cap'::(us++us2)).toArray)) (ð (ð h id2 (.deep k (g2+1) [])) j (.deep k g' (xss++yss))) w' ∧
  HR (ï (ï ν id2 (.agg [Value.slice none 0 0].toArray)) j (.agg (Value.slice base' (xss.length+yss.length) cap'::(us++us2)).toArray)) (ð (ð h id2 (.deep k (g2+1) [])) j (.deep k g' (xss++yss))) w':=by
 have hid2:id2<h.length:=Ű hl2 (by simp);obtain⟨base2',cap2',us2',q1,q2,q3,q4,q5⟩:=H.table hl2;rw[hν2] at q1;have q:=lZ q1
 injection q with e1 e2
 subst e2
 have hlive2:(lkB h id2).live=true:=by rw[hl2]; rfl
 have own2:∀u∈us2,∀b,kg u=some b→Ļ (ν id2) b:=fun u hu b hb=>by rw[hν2]; exact sM.2 ⟨u,by simp[hu],hb⟩
 have hap2:XD us2:=q3.sublist (List.sublist_cons_self _ _)
 have hdiff:∀u∈us,∀v∈us2,∀b,kg u=some b→kg v≠some b:=fun u hu v hv b hb hvb =>
  hne (H.inj id2 j b hlive2 (hus u hu b hb).1 (own2 v hv b hvb) (hus u hu b hb).2)
 have hV0:∀u∈us++us2,∀b,kg (.slice base' (xss.length+yss.length) cap')=some b→kg u≠some b:=fun u hu b hb hub=>by
  rcases hblk b hb with⟨h1,h2,h3⟩|h1
  ·rcases cM.1 hu with hu|hu
   ·exact h3 u hu hub
   ·exact hne (H.inj id2 j b hlive2 h1 (own2 u hu b hub) h2)
  ·rcases cM.1 hu with hu|hu
   ·have:=adH hrows u hu b hub; omega
   ·have:=adH q5 u hu b hub; omega
 have hrow':∀u∈us++us2,∀b,kg u=some b→b<w.heap.size→w'.heap[b]?=w.heap[b]?:=fun u hu b hb hlt=>hkeep b hlt fun hv=>hV0 u hu b hv hb;refine upd2 H hne hid2 hj hos htape hout hsize (fun b hb h1 h2=>hkeep b hb fun hv=>?_) (fun _ b hb=>?_) (fun _ b hb=>?_) (fun _ _ b hb _=>?_) ?_ (hnext _) (fun ev=>?_) (fun ev=>?_)
 ·rcases hblk b hv with⟨h3,h4,_⟩|h3
  ·exact h2 h3 h4
  ·omega
 ·obtain⟨u,hu,hb⟩:=sM.1 hb;simp at hu;subst hu;cases hb
 ·obtain⟨u,hu,hb⟩:=sM.1 hb;rcases cN.1 hu with rfl|hu
  ·rcases hblk b hb with⟨h3,h4,_⟩|h3
   ·exact .inr (.inl ⟨h3,h4⟩)
   ·exact .inr (.inr h3)
  ·rcases cM.1 hu with hu|hu
   ·exact .inr (.inl (hus u hu b hb))
   ·exact .inl ⟨hlive2,own2 u hu b hb⟩
 ·obtain⟨u,hu,hb⟩:=sM.1 hb;simp at hu;subst hu;cases hb
 ·rw[hl2]; exact⟨g2+1,[],rfl,gq _,fun hf=>by omega⟩
 ·exact⟨none,0,[],by rw[ė _ _ hne,Ï]; rfl,cG _,fK _ _,.inl ⟨rfl,rfl⟩,trivial⟩
 ·refine⟨base',cap',us++us2,by rw[Ï,cJ],by rw[cJ]; exact hcap,?_,hcells,?_⟩
  ·rw[cJ];exact List.Pairwise.cons (fun v hv b hb=>hV0 v hv b hb) (fW.2 ⟨hap,hap2,fun u hu v hv b hb=>hdiff u hu v hv b hb⟩)
  ·exact(hrows.append q5).keepRows hrow'
def abl {n b:Nat} (h1:n≤4294967296) (h2:b≤32768):n*b≤140737488355328:=by
 have:=fZ h1 h2;omega
def W6 (H:HR ν h w) (t ty:TypeId) {e:TypeId} {i:TypeInfo} {z:Value} (ht:P.underlying t=some (.slice e)) (hi:P.info? e=some i) (hz:i.zero=some z) (hsz:i.size=1) (hby:i.bytes≤32768) (hzs:z.cells.size=1)
 {j id2:Nat} (hne:id2≠j) (hj:j<h.length) {k:IntKind} {g2 g':Nat} {xss yss:List (List Int)} (hl2:lkB h id2=.deep k g2 yss) {base base2:Option Addr} {cap cap2:Nat} {us us2:List Value} (hν2:ν id2=.agg (Value.slice base2 yss.length cap2::us2).toArray)
 (hnext:∀W,(lkB h j).next ν W j (.deep k g' (xss++yss)))
 (hx:(base=none∧cap=0∧xss=[]∧us=[])∨∃g,lkB h j=.deep k g xss∧ν j=.agg (Value.slice base xss.length cap::us).toArray)
 (hlen:xss.length+yss.length≤4294967296) :
 ∃V w',(Builtin.append_ #[t,t] ty #[.slice base xss.length cap,.slice base2 yss.length cap2]).run P w=.ok V w'∧V.oneCell'=true ∧
  Ev h.length ν h w (ï (ï ν id2 (.agg [Value.slice none 0 0].toArray)) j (.agg (V::(us++us2)).toArray)) (ð (ð h id2 (.deep k (g2+1) [])) j (.deep k g' (xss++yss))) w' ∧
  HR (ï (ï ν id2 (.agg [Value.slice none 0 0].toArray)) j (.agg (V::(us++us2)).toArray)) (ð (ð h id2 (.deep k (g2+1) [])) j (.deep k g' (xss++yss))) w':=by
 obtain⟨base2',cap2',us2',q1,q2,q3,q4,q5⟩:=H.table hl2;rw[hν2] at q1;have q:=lZ q1
 injection q with e1 e2
 injection e1 with e1 e3 e4
 subst e1 e2 e4;obtain⟨c2,n2⟩:=XR q5 q4 q2;have l2:=q5.length;have hone2:=agU q5
 -- the table that grows
 have hX:ý (ZM w k) xss us∧(∀u∈us,∀b,kg u=some b→(lkB h j).live=true∧Ļ (ν j) b)∧XD us ∧
  ((base=none∧cap=0∧us=[]∧xss=[])∨∃b off c e,base=some ⟨b,off,none⟩∧w.heap[b]?=some (.cells c e (0,0))∧off+cap≤c.size∧xss.length≤cap∧(∀(i:Nat) (u:Value),us[i]?=some u→c[off+i]?=some u)∧((lkB h j).live=true∧Ļ (ν j) b∧∀u∈us,kg u≠some b)):=by
  rcases hx with⟨rfl,rfl,rfl,rfl⟩|⟨g,hl,hν⟩
  ·exact⟨trivial,fun u hu=>(by cases hu),List.Pairwise.nil,.inl ⟨rfl,rfl,rfl,rfl⟩⟩
  ·obtain⟨b',c',us',p1,p2,p3,p4,p5⟩:=H.table hl;rw[hν] at p1;have q:=lZ p1
   injection q with e1 e2
   injection e1 with e1 e3 e4
   subst e1 e2 e4
   have hlive:(lkB h j).live=true:=by rw[hl]; rfl
   refine⟨p5,fun u hu b hb=>⟨hlive,by rw[hν]; exact sM.2 ⟨u,by simp[hu],hb⟩⟩,p3.sublist (List.sublist_cons_self _ _),?_⟩;rcases p4 with⟨rfl,rfl⟩|⟨b,off,c,e',rfl,p6,p7,p8⟩
   ·have h0:xss=[]:=cX.1 (by omega);subst h0;exact .inl ⟨rfl,rfl,cX.1 p5.length.symm,rfl⟩
   ·exact .inr ⟨b,off,c,e',rfl,p6,p7,p2,p8,hlive,by rw[hν]; exact sM.2 ⟨_,.head _,rfl⟩,fun u hu hub=>(dt.1 p3).1 u hu b rfl hub⟩
 obtain⟨x1,x2,x3,x4⟩:=hX;have l1:=x1.length
 have hU2:yss≠[]→∃a,base2=some a:=fun hy=>by
  cases hb:base2 with
  |none=>exact absurd (cX.1 (by rw[l2,n2 hb]; rfl)) hy
  |some a=>exact⟨a,rfl⟩
 -- a new array
 have hnew:∀old:Nat,∃V w',(Result.ok (Value.slice (some ⟨w.heap.size,0,none⟩) (xss.length+yss.length) (grownCap w (xss.length+yss.length) old e))
  (w.drew.alloc (.cells (us.toArray++us2.toArray++Builtin.zeroCells z.cells (grownCap w (xss.length+yss.length) old e-(xss.length+yss.length))) e)):Result Value)=.ok V w'∧V.oneCell'=true ∧
  Ev h.length ν h w (ï (ï ν id2 (.agg [Value.slice none 0 0].toArray)) j (.agg (V::(us++us2)).toArray)) (ð (ð h id2 (.deep k (g2+1) [])) j (.deep k g' (xss++yss))) w' ∧
  HR (ï (ï ν id2 (.agg [Value.slice none 0 0].toArray)) j (.agg (V::(us++us2)).toArray)) (ð (ð h id2 (.deep k (g2+1) [])) j (.deep k g' (xss++yss))) w':=by
  intro old;have hge:=grownCap_ge w (xss.length+yss.length) old e;obtain⟨q,hq⟩:∃q,q=grownCap w (xss.length+yss.length) old e:=⟨_,rfl⟩;rw[←hq] at hge ⊢;obtain⟨cs,hcs⟩:∃cs,cs=us.toArray++us2.toArray++Builtin.zeroCells z.cells (q-(xss.length+yss.length)):=⟨_,rfl⟩
  have hsize:cs.size=q:=by
   rw[hcs];simp only[gR,eY,size_zeroCells,hzs];omega
  have hget:∀(m:Nat) (u:Value),(us++us2)[m]?=some u→cs[m]?=some u:=fun m u hm=>by
   rw[←eD] at hm;rw[hcs,fB,if_pos]
   ·simpa using hm
   ·have:=(eV.1 hm).1;simpa using this
  rw[←hcs];have hheap:(w.drew.alloc (.cells cs e)).heap=w.heap.push (.cells cs e (0,0)):=rfl
  have hlast:(w.drew.alloc (.cells cs e)).heap[w.heap.size]?=some (.cells cs e (0,0)):=by rw[hheap]; exact Array.getElem?_push_size
  exact⟨_,_,rfl,rfl,TH (w':=w.drew.alloc (.cells cs e)) H hne hj hl2 hν2 hnext x1 x2 x3 (base':=some ⟨w.heap.size,0,none⟩) (cap':=q) hge rfl rfl rfl (by rw[hheap]; simp)
   (fun b hb=>.inr (by cases hb; exact cG _)) (fun b hb _=>by rw[hheap,eP]; simp[fD hb]) (.inr ⟨w.heap.size,0,cs,e,rfl,hlast,by omega,fun m u hm=>by rw[dw]; exact hget m u hm⟩)⟩
 rcases x4 with⟨rfl,rfl,rfl,rfl⟩|⟨b,off,c,e',rfl,p6,p7,p8,p9,p10⟩
 ·by_cases hy:yss=[]
  ·subst hy;have hu2:us2=[]:=cX.1 l2.symm;subst hu2;have hrun:=pT (P:=P) (w:=w) t ty e i ht hi base2 cap2;exact⟨_,w,hrun,rfl,TH H hne hj hl2 hν2 hnext x1 x2 x3 (base':=none) (cap':=0) (cG _) rfl rfl rfl (cG _) (fun b hb=>by cases hb) (fun b _ _=>rfl) (.inl ⟨rfl,rfl⟩)⟩
  ·have h0:0<yss.length:=d8.2 hy;obtain⟨a,rfl⟩:=hU2 hy;rw[dZ,dw] at hlen;have hb48:=abl hlen hby;have hrun:=run_append_nil (P:=P) w t ty e i z ht hi hz a yss.length cap2 us2 (by rw[hsz]; omega) (c2 a rfl) h0 (by omega) (by omega);obtain⟨V,w',h1,h2,h3⟩:=hnew 0;refine⟨V,w',?_,h2,h3⟩;rw[←h1];simpa using hrun
 ·by_cases hroom:xss.length+yss.length≤cap
  ·have hrun:=oB (P:=P) (o:=off) (sLen:=xss.length) (sCap:=cap) t ty e i ht hi p6 base2 yss.length cap2 us2 (by rw[hsz]; omega) c2 n2 hone2 hroom (by rw[hsz]; omega);rw[hsz,fY] at hrun;obtain⟨cs,hcs⟩:∃cs,cs=(c.toList.take (off+xss.length)++us2++c.toList.drop (off+xss.length+us2.length)).toArray:=⟨_,rfl⟩
   have hsize:cs.size=c.size:=by
    rw[hcs];simp only[eY,cJ,cZ,gC,fm];omega
   have hget:∀(m:Nat) (u:Value),(us++us2)[m]?=some u→cs[off+m]?=some u:=fun m u hm=>by
    have hs:=pD c.toList us2 (off+xss.length) (off+m) (by rw[show c.toList.length=c.size from fm]; omega);rw[hcs,eD,hs];rw[eT] at hm
    split at hm
    ·rw[if_pos (by omega)];simpa using p9 m u hm
    ·have hml:=(cI.1 hm).1;rw[if_neg (by omega),if_pos (by omega),show off+m-(off+xss.length)=m-us.length by omega];exact hm
   rw[←hcs] at hrun;have hh:(w.setRow b cs).heap[b]?=some (.cells cs e' (0,0)):=setRow_heap w b c _ e' _ p6
   exact⟨_,_,hrun,rfl,TH (w':=w.setRow b cs) H hne hj hl2 hν2 hnext x1 x2 x3 (base':=some ⟨b,off,none⟩) (cap':=cap) hroom rfl rfl rfl (by rw[vl]; exact cG _)
    (fun b' hb=>.inl (by cases hb; exact p10)) (fun b' hb hne'=>setRow_other w b b' _ fun he=>hne' (by rw[he]; rfl)) (.inr ⟨b,off,cs,e',rfl,hh,by omega,hget⟩)⟩
  ·have hy:yss≠[]:=fun e=>by rw[e,dZ] at hroom; omega
   have h0:0<yss.length:=d8.2 hy;obtain⟨a,rfl⟩:=hU2 hy;have hrun:=run_append_grow (P:=P) w t ty e i z ht hi hz ⟨b,off,none⟩ xss.length cap us (by rw[hsz]; omega) (fun m u hm=>by rw[ņ]; simp only[World.cell?,p6]; exact p9 m u hm) a yss.length cap2 us2 (by rw[hsz]; omega) (c2 a rfl) (by omega) (by omega) (growslice_fits (by omega) (abl hlen hby));obtain⟨V,w',h1,h2,h3⟩:=hnew cap;exact⟨V,w',hrun.trans h1,h2,h3⟩
def ajB {S:St} {a:Act} {nid n:Nat} {t:TypeId} {ps:Array (Nat×Operand)} {v:AV} (H:Sim ν S a w) (hn:nid<S.h.length) (hd:lkB S.h nid=.dead)
 (e:Zs P S.h nid n t (ps.toList.map fun p=>(p.1,ev S.t p.2)) (fun v h=>some (v,h))=some (v,h')):ξ P ν S.h w (Instr.buildSlice t n (ps.map fun(i,x)=>(i,a.eval x))) v h':=by
 cases hps:ps.toList with
 |nil=>rw[hps] at e; cases e
 |cons p l =>
 cases l with
 |cons q l=>rw[hps] at e; cases e
 |nil =>
 obtain⟨p1,x⟩:=p;rw[hps] at e;simp only[eE,fp,Zs] at e;have hv:=Ņ H x
 cases hev:ev S.t x<;>rw[hev] at e<;>simp only at e<;>try (cases e; done)
 ·rename_i id g;rw[hev] at hv
  split at e<;>try (cases e; done)
  rename_i el hel
  split at e<;>try (cases e; done)
  rename_i hc
  split at e<;>try (cases e; done)
  rename_i k g' xs hl
  split at e<;>try (cases e; done)
  rename_i hgg;cases e;simp only[cH] at hc;obtain⟨hrow,h0,h1⟩:=hc;obtain rfl:=cR h0;obtain rfl:=cR h1
  obtain rfl:g=g':=by simpa using hgg
  obtain⟨ti,z,hi,hsz,_,hby,hz,hzs⟩:=kM hrow;have hpa:ps=#[(0,x)]:=dJ.1 (by rw[hps]);subst hpa;obtain⟨_,t2,g2,fz2,xs2,hl2,_,hv2⟩:=hv;rw[hl] at hl2;cases hl2
  have hm:((#[(0,x)]:Array (Nat×Operand)).map fun(i,x)=>(i,a.eval x))=#[(0,a.eval x)]:=by simp
  rw[hm];exact ahA H.heap hn hd (jK hel) hi hsz hz hzs hl rfl (hv2 rfl)
 ·rename_i id g;rw[hev] at hv
  split at e<;>try (cases e; done)
  rename_i el hel
  split at e<;>try (cases e; done)
  rename_i hc
  split at e<;>try (cases e; done)
  rename_i k g' xss hl
  split at e<;>try (cases e; done)
  rename_i hgg;cases e;simp only[cH] at hc;obtain⟨hrow,h0,h1⟩:=hc;obtain rfl:=cR h0;obtain rfl:=cR h1
  obtain rfl:g=g':=by simpa using hgg
  obtain⟨ti,z,hi,hsz,_,hby,hz,hzs⟩:=kM hrow;have hpa:ps=#[(0,x)]:=dJ.1 (by rw[hps]);subst hpa;obtain⟨_,k2,g2,xss2,hl2,_,hv2⟩:=hv;rw[hl] at hl2;cases hl2
  have hm:((#[(0,x)]:Array (Nat×Operand)).map fun(i,x)=>(i,a.eval x))=#[(0,a.eval x)]:=by simp
  rw[hm];exact ahz H.heap hn hd (jK hel) hi hsz hz hzs hl rfl (hv2 rfl)
def ajC {nid:Nat} {t ty:TypeId} {s v:AV} {id2 g2:Nat} {us ux:Value} (H:HR ν h w) (hn:nid<h.length) (hd:lkB h nid=.dead)
 (e:W7 P h nid t s id2 g2 (fun v h=>some (v,h))=some (v,h')) (hs:VR ν h w s us) (hx:VR ν h w (.dp id2 g2) ux):ξ P ν h w (Builtin.append_ #[t,t] ty #[us,ux]) v h':=by
 unfold W7 at e
 split at e<;>try (cases e; done)
 rename_i el hel
 split at e<;>try (cases e; done)
 rename_i hrow
 split at e<;>try (cases e; done)
 rename_i k g2' yss hl2
 split at e<;>try (cases e; done)
 rename_i hgg
 obtain rfl:g2=g2':=by simpa using hgg
 obtain⟨ti,z,hi,hsz,_,hby,hz,hzs⟩:=kM hrow;have ht:=jK hel;have hid2:id2<h.length:=Ű hl2 (by simp);obtain⟨_,k2,g3,yss2,hl3,_,hv2⟩:=hx;rw[hl2] at hl3; cases hl3;obtain⟨us2,hν2⟩:=hv2 rfl;obtain⟨base2,cap2,us2',q1,_⟩:=H.table hl2;have q1':=q1;rw[hν2] at q1;have q:=lZ q1
 injection q with e1 e2
 subst e1 e2
 split at e
 ·-- nil
  split at e<;>try (cases e; done)
  rename_i hok;cases e;have hus:us=.slice none 0 0:=hs;subst hus
  have hne:id2≠nid:=fun e=>by rw[e,hd] at hl2; cases hl2
  obtain⟨V,w',h1,h2,h3,h4⟩:=W6 H t ty ht hi hz hsz hby hzs hne hn (g':=0) (xss:=[]) (us:=[]) hl2 hν2 (fun W=>by rw[hd]; trivial) (.inl ⟨rfl,rfl,rfl,rfl⟩) (by simp[ê] at hok; simpa using hok);refine⟨_,w',V,h1,⟨h2,k,0,yss,â _ (by rw[Ñ]; exact hn),cG _,fun _=>⟨_,Ï _ _ _⟩⟩,h4,h3,by rw[Ñ,Ñ]⟩
 ·rename_i id g
  split at e<;>try (cases e; done)
  rename_i hid
  split at e<;>try (cases e; done)
  rename_i k' g' xss hl
  split at e<;>try (cases e; done)
  rename_i hg
  split at e<;>try (cases e; done)
  rename_i hk _;subst hk
  split at e<;>try (cases e; done)
  rename_i hok
  obtain rfl:g=g':=by simpa using hg
  cases e
  have hne:id2≠id:=fun e=>by rw[e] at hid; simp at hid
  have hidl:id<h.length:=Ű hl (by simp);obtain⟨_,k3,g4,xss3,hl4,_,hv3⟩:=hs;rw[hl] at hl4; cases hl4;obtain⟨us1,hν1⟩:=hv3 rfl;obtain⟨base,cap,us1',p1,_⟩:=H.table hl;rw[hν1] at p1;have q:=lZ p1
  injection q with e1 e2
  subst e1 e2;obtain⟨V,w',h1,h2,h3,h4⟩:=W6 H t ty ht hi hz hsz hby hzs hne hidl (g':=g+1) (xss:=xss) (us:=us1) hl2 hν2 (fun W=>by rw[hl]; exact⟨g+1,xss++yss,rfl,gq _,fun hf=>by omega⟩) (.inr ⟨g,hl,hν1⟩) (by simpa[ê] using hok);refine⟨_,w',V,h1,⟨h2,_,g+1,xss++yss,â _ (by rw[Ñ]; exact hidl),cG _,fun _=>⟨_,Ï _ _ _⟩⟩,h4,h3,by rw[Ñ,Ñ]⟩
 ·cases e
end
end Go.Am
end

noncomputable section
namespace Go.Am
variable {ρ:Type}
def CT (k:IntKind) (n:Int) (K:AV→Option ρ):arK k n K=(arK k n some).bind K:=rfl
def Ad (P:Program) (op:BinOp) (t:TypeId) (x y:AV) (K:AV→Option ρ):binK P op t x y K=(binK P op t x y some).bind K:=by
 unfold binK; (repeat' split)<;>first|rfl|exact CT _ _ _|(unfold shK; (repeat' split)<;>rfl)
def zI (d:Option TypeDesc) (h:List Blk) (x:AV) (K:AV→Option ρ):ahb d h x K=(ahb d h x some).bind K:=by
 unfold ahb; (repeat' split)<;>rfl
def pK (sz:Nat) (h:List Blk) (x i:AV) (K:AV→Option ρ):EU sz h x i K=(EU sz h x i some).bind K:=by
 unfold EU; (repeat' split)<;>rfl
def pF (h:List Blk) (x:AV) (o:Nat) (K:AV→Option ρ):AG h x o K=(AG h x o some).bind K:=by
 unfold AG; (repeat' split)<;>rfl
def uI (P:Program) (h:List Blk) (t:TypeId) (a:AV) (K:AV→Option ρ):Pe P h t a K=(Pe P h t a some).bind K:=by
 unfold Pe; (repeat' split)<;>rfl
def pC (P:Program) (h:List Blk) (t:TypeId) (a v:AV) (K:List Blk→Option ρ):wK P h t a v K=(wK P h t a v some).bind K:=by
 unfold wK; (repeat' split)<;>rfl
def zq (sz:Nat) (h:List Blk) (x:AV) (lo hi:Option AV) (eat:Bool) (K:AV→List Blk→Option ρ) :
 qU sz h x lo hi eat K=(qU sz h x lo hi eat fun v h=>some (v,h)).bind fun r=>K r.1 r.2:=by
 unfold qU; (repeat' split)<;>rfl
def wJ (P:Program) (h:List Blk) (nid:Nat) (t:TypeId) (s x:AV) (K:AV→List Blk→Option ρ) :
 zm P h nid t s x K=(zm P h nid t s x fun v h=>some (v,h)).bind fun r=>K r.1 r.2:=by
 unfold zm; (repeat' split)<;>rfl
def Fv (P:Program) (h:List Blk) (nid:Nat) (t:TypeId) (s:AV) (id g:Nat) (K:AV→List Blk→Option ρ) :
 W7 P h nid t s id g K=(W7 P h nid t s id g fun v h=>some (v,h)).bind fun r=>K r.1 r.2:=by
 unfold W7; (repeat' split)<;>rfl
def Ft (P:Program) (h:List Blk) (nid n:Nat) (t:TypeId) (ps:List (Nat×AV)) (K:AV→List Blk→Option ρ) :
 Zs P h nid n t ps K=(Zs P h nid n t ps fun v h=>some (v,h)).bind fun r=>K r.1 r.2:=by
 unfold Zs; (repeat' split)<;>rfl
def zo (P:Program) (h:List Blk) (nid:Nat) (t:TypeId) (s x:AV) (K:AV→List Blk→Option ρ) :
 HE P h nid t s x K=(HE P h nid t s x fun v h=>some (v,h)).bind fun r=>K r.1 r.2:=by
 unfold HE; (repeat' split)<;>rfl
def Aa (P:Program) (h:List Blk) (t:TypeId) (x:AV) (K:List Blk→Option ρ):Io P h t x K=(Io P h t x some).bind K:=by
 unfold Io; (repeat' split)<;>rfl
def mT (P:Program) (h:List Blk) (t:TypeId) (m i:AV) (ok:Bool) (K:AV→Option ρ):s8 P h t m i ok K=(s8 P h t m i ok some).bind K:=by
 unfold s8; (repeat' split)<;>rfl
def ng (P:Program) (h:List Blk) (t:TypeId) (m i x:AV) (K:List Blk→Option ρ):kP P h t m i x K=(kP P h t m i x some).bind K:=by
 unfold kP; (repeat' split)<;>rfl
def iF (gt:Bool) (l:List AV) (K:AV→Option ρ):∀x,lm gt x l K=(lm gt x l some).bind K:=by
 induction l with
 |nil=>intro x; rfl
 |cons y l ih =>
  intro x
  cases x<;>cases y<;>try rfl
  unfold lm; (repeat' split)<;>first|rfl|exact ih _
def opR (P:Program) (S:St) (nid:Nat) (eat:Bool) (o:Op):Option (AV×St):=opK P S nid eat o fun v S=>some (v,S)
def Γ {α β γ:Type} {x:Option α} {y:Option β} {f:α→Option β} {g:β→Option γ} {k:α→Option γ} {z:Option γ}
 (h1:z=x.bind k) (h2:y=x.bind f) (h:∀a,k a=(f a).bind g):z=y.bind g:=by
 subst h1 h2; cases x with
 |none=>rfl
 |some a=>exact h a
def iN (j:Int) (K:Nat→Option ρ):∀(n q:Nat),UL n q j K=(UL n q j some).bind K
 |0,_=>rfl
 |n+1,q=>by
  unfold UL
  split
  ·rfl
  ·exact iN j K n (q+1)
def FY {j:Int} {v:Nat}:∀{n q:Nat},UL n q j some=some v→j=(v:Int)∧q≤v∧v<q+n
 |0,_,h=>by cases h
 |n+1,q,h=>by
  unfold UL at h
  split at h
  ·rename_i hd;cases h;exact⟨of_decide_eq_true hd,cG _,by omega⟩
  ·obtain⟨h1,h2,h3⟩:=FY h;exact⟨h1,by omega,by omega⟩
def Rf (P:Program) (S:St) (nid:Nat) (eat:Bool) (o:Op) (K:AV→St→Option ρ) :
 opK P S nid eat o K=(opR P S nid eat o).bind fun r=>K r.1 r.2:=by
 unfold opR;unfold opK;dsimp only
 (repeat' split)<;>first
  |rfl
  |exact Γ (zI ..) (zI ..) fun _=>rfl
  |exact Γ (uI ..) (uI ..) fun _=>rfl
  |exact Γ (pC ..) (pC ..) fun _=>rfl
  |exact Γ (Ad ..) (Ad ..) fun _=>rfl
  |exact Γ (ng ..) (ng ..) fun _=>rfl
  |exact Γ (mT ..) (mT ..) fun _=>rfl
  |exact Γ (wJ ..) (wJ ..) fun _=>rfl
  |exact Γ (Fv ..) (Fv ..) fun _=>rfl
  |exact Γ (Ft ..) (Ft ..) fun _=>rfl
  |exact Γ (zo ..) (zo ..) fun _=>rfl
  |exact Γ (Aa ..) (Aa ..) fun _=>rfl
  |exact Γ (iF _ _ _ _) (iF _ _ _ _) fun _=>rfl
  |exact Γ (CT ..) (CT ..) fun _=>rfl
  |exact Γ (zq ..) (zq ..) fun _=>rfl
  |exact Γ (pF ..) (pF ..) fun _=>rfl
  |exact Γ (pK ..) (pK ..) fun _=>rfl
  |exact Γ (iN ..) (iN ..) fun _=>rfl
  |exact Γ (iN ..) (iN ..) fun _=>by(repeat' split)<;>rfl
end Go.Am
end

noncomputable section
namespace Go.Am
variable [Ghost]
section
variable {ν ν':Nat→Value} {w w':World} {P:Program}
def acU (ν:Nat→Value) (S:St) (w:World) (r:Result Next) (v:AV) (S':St):Prop :=
 ∃ν' w' u,(r=.ok (.value u) w'∨(r=.ok .skip w'∧u=undef))∧VR ν' S'.h w' v u∧HR ν' S'.h w'∧Ev S.h.length ν S.h w ν' S'.h w'∧S'.h.length=S.h.length∧S'.t=S.t
def ξ.step {S:St} {x:Sem Value} {v:AV} {h':List Blk} (hd:ξ P ν S.h w x v h') :
 acU ν S w ((do let u ←x; pure (.value u):Sem Next).run P w) v {t:=S.t,h:=h'}:=by
 obtain⟨ν',w',u,h1,h2,h3,h4,h5⟩:=hd;refine⟨ν',w',u,.inl ?_,h2,h3,h4,h5,rfl⟩;simp[h1]
def acU.still {S:St} {r:Result Next} {v:AV} {u:Value} (H:HR ν S.h w) (hr:r=.ok (.value u) w) (hv:VR ν S.h w v u):acU ν S w r v S :=
 ⟨ν,w,u,.inl hr,hv,H,Ev.refl _ _ _ _,rfl,rfl⟩
def Ui {S:St} {x:Sem Unit} {h':List Blk} (hd:∃w',x.run P w=.ok () w'∧HR ν h' w'∧Ev S.h.length ν S.h w ν h' w'∧h'.length=S.h.length) :
 acU ν S w ((do x; pure .skip:Sem Next).run P w) .any {t:=S.t,h:=h'}:=by
 obtain⟨w',h1,h3,h4,h5⟩:=hd;refine⟨ν,w',undef,.inr ⟨?_,rfl⟩,trivial,h3,h4,h5,rfl⟩;simp[h1]
def aeL {a:AV} {v:Value} {h:List Blk} (hi:isV0 a=true) (hv:VR ν h w a v):VR0 ν h w a v:=by
 have h1:a.isFn=false:=by cases a<;>first|rfl|cases hi
 have h2:a.isAgg=false:=by cases a<;>first|rfl|cases hi
 have h3:a.isTup=false:=by cases a<;>first|rfl|cases hi
 rwa [xp h3,zn h2,xd h1] at hv
def ý.of_map {α β γ:Type} {R:β→γ→Prop} {f:α→β} {g:α→γ}:∀{l:List α},(∀x∈l,R (f x) (g x))→ý R (l.map f) (l.map g)
 |[],_=>trivial
 |x::l,h=>⟨h x (by simp),ý.of_map fun y hy=>h y (by simp[hy])⟩
def agT (k:IntKind) (a b:Int):(Builtin.max2 (.int k a) (.int k b)).run P w=.ok (.int k (Zc a b)) w:=rfl
def agS (k:IntKind) (a b:Int):(Builtin.min2 (.int k a) (.int k b)).run P w=.ok (.int k (aaR a b)) w:=rfl
def adF {S:St} {a:Act} {x y:Operand} (h:BI x y=true):a.eval x=a.eval y:=by
 unfold BI at h
 split at h
 ·have:=eq_of_beq h; subst this; rfl
 ·have:=of_decide_eq_true h; subst this; rfl
 ·cases h
def Η {α β:Type} {x:Option α} {f:α→Option β} {r:β} (h:x.bind f=some r):∃a,x=some a∧f a=some r:=by
 cases x with
 |none=>cases h
 |some a=>exact⟨a,rfl,h⟩
def arr1 {α:Type} {a:Array α} {x:α} (h:a.toList=[x]):a=#[x]:=fh (by simpa using h)
def arr2 {α:Type} {a:Array α} {x y:α} (h:a.toList=[x,y]):a=#[x,y]:=fh (by simpa using h)
def kF {S:St} {a:Act} {o:Oper} {b:Builtin} {args:Array Operand} {tys:Array TypeId} {f:Array TypeId→TypeId→Array Value→Sem Value} (hop:o.op=.call ⟨.builtin b,args,tys⟩)
 (hb:∀consts vs,builtin b tys o.type consts vs=(do pure (.value (←f tys o.type vs)):Sem Next)) :
 execOp a.eval o=(do let u ←f tys o.type (args.map a.eval); pure (.value u)):=by
 unfold execOp;rw[hop];simp only[resolve,pure_bind,invoke,hb]
def agZ {S S':St} {a:Act} {o:Oper} {nid:Nat} {eat:Bool} {v:AV} {clone:Nat→Bool} (H:Sim ν S a w) (hn:Ē clone o.op=true→nid<S.h.length∧lkB S.h nid=.dead)
 (e:opR P S nid eat o.op=some (v,S')):acU ν S w ((execOp a.eval o).run P w) v S':=by
 have hr:=H.heap
 cases hop:o.op with
 |move x =>
  rw[hop] at e; cases e;exact acU.still hr (by unfold execOp; rw[hop]; rfl) (Ņ H x)
 |assign x =>
  rw[hop] at e; cases e;exact acU.still hr (by unfold execOp; rw[hop]; rfl) (Ņ H x)
 |pick c x y =>
  rw[hop] at e;simp only[opR,opK] at e
  split at e<;>try (cases e; done)
  rename_i b hb;have hc:=Ņ H c;rw[hb] at hc;have hc:a.eval c=.bool b:=hc
  have hx:(execOp a.eval o).run P w=.ok (.value (if b then a.eval x else a.eval y)) w:=by unfold execOp; rw[hop]; simp[asBool,hc]
  split at e
  ·cases e; exact acU.still hr hx (Ņ H x)
  ·cases e; exact acU.still hr hx (Ņ H y)
 |box el x =>
  rw[hop] at e;simp only[opR,opK] at e
  split at e<;>try (cases e; done)
  rename_i cs hcs
  have hx:execOp a.eval o=(do let u ←Instr.box el (a.eval x); pure (.value u)):=by unfold execOp; rw[hop]
  rw[hx]
  split at e
  ·split at e<;>try (cases e; done)
   split at e<;>try (cases e; done)
   rename_i y hy;cases e;exact(ajK hr hcs hy (Ņ H x)).step
  ·cases e;obtain⟨h1,h2⟩:=hn (by rw[hop]; rfl);exact(box_ok hr h1 h2 hcs (Ņ H x)).step
 |alloc el =>
  rw[hop] at e;simp only[opR,opK] at e
  split at e<;>try (cases e; done)
  rename_i z hz
  split at e<;>try (cases e; done)
  rename_i cs hcs;cases e;obtain⟨h1,h2⟩:=hn (by rw[hop]; rfl)
  have hx:execOp a.eval o=(do let u ←Instr.alloc el true (.tuple #[]); pure (.value u)):=by unfold execOp; rw[hop]
  rw[hx];exact(ahY hr h1 h2 hz hcs).step
 |build t ps =>
  rw[hop] at e;simp only[opR,opK] at e
  have hx:execOp a.eval o=(do let u ←Instr.build t (ps.map fun(i,x)=>(i,a.eval x)); pure (.value u)):=by unfold execOp; rw[hop]
  rw[hx]
  split at e<;>try (cases e; done)
  ·rename_i fs ht
   split at e<;>try (cases e; done)
   rename_i hfs
   split at e<;>try (cases e; done)
   rename_i z hz
   split at e<;>try (cases e; done)
   rename_i zs hzs
   split at e<;>try (cases e; done)
   rename_i cs hcs;cases e;exact(Pr H ht hfs hz hzs hcs).step
  ·rename_i n el ht
   split at e<;>try (cases e; done)
   rename_i sz z hs hz
   split at e<;>try (cases e; done)
   rename_i zs hzs
   split at e<;>try (cases e; done)
   rename_i cs hcs;cases e;exact(ZF H ht hs hz hzs hcs).step
 |buildSlice t n ps =>
  rw[hop] at e
  have hx:execOp a.eval o=(do let u ←Instr.buildSlice t n (ps.map fun(i,x)=>(i,a.eval x)); pure (.value u)):=by unfold execOp; rw[hop]
  rw[hx];obtain⟨h1,h2⟩:=hn (by rw[hop]; rfl);simp only[opR,opK] at e
  split at e
  ·rw[Ft] at e;obtain⟨⟨v',h'⟩,h3,h4⟩:=Η e;cases h4;exact(ajB H h1 h2 h3).step
  split at e<;>try (cases e; done)
  rename_i el hel
  split at e<;>try (cases e; done)
  rename_i ty hty
  split at e<;>try (cases e; done)
  rename_i hc;simp only[cH,beq_iff_eq,decide_eq_true_eq] at hc
  split at e<;>try (cases e; done)
  rename_i xs hxs;cases e;exact(TT H h1 h2 hel hc.1 hc.2.1 hc.2.2 hxs).step
 |load t x =>
  rw[hop] at e;simp only[opR,opK] at e;rw[uI] at e;obtain⟨v',h1,h2⟩:=Η e;cases h2
  have hx:execOp a.eval o=(do let u ←Instr.loadAt t (a.eval x); pure (.value u)):=by unfold execOp; rw[hop]
  rw[hx];obtain⟨u,h3,h4⟩:=aey hr h1 (Ņ H x);exact(ξ.still hr h3 h4).step
 |store t x y =>
  rw[hop] at e;simp only[opR,opK] at e
  have hx:execOp a.eval o=(do Instr.storeAt t (a.eval x) (a.eval y); pure .skip):=by unfold execOp; rw[hop]
  rw[hx]
  split at e
  ·split at e<;>try (cases e; done)
   rename_i id g lo n hsub
   split at e<;>try (cases e; done)
   rename_i ty g' xs hl
   split at e<;>try (cases e; done)
   rename_i hc;simp only[cH,beq_iff_eq,decide_eq_true_eq] at hc;obtain⟨rfl,hln⟩:=hc;rw[pC] at e;obtain⟨h',h1,h2⟩:=Η e;cases h2;have hy:=Ņ H y;rw[hsub] at hy;obtain⟨ν1,v1,H1,ev1⟩:=ajy hr hl hln hy;obtain⟨w',k1,k2,k3,k4⟩:=Z8 H1 h1 ((Ņ H x).ev ev1) v1;refine⟨ν1,w',undef,.inr ⟨?_,rfl⟩,trivial,k2,ev1.trans k3 (gK (Ñ _ _ _).symm),k4.trans (Ñ _ _ _),rfl⟩;simp[k1]
  ·rw[pC] at e;obtain⟨h',h1,h2⟩:=Η e;cases h2;exact Ui (Z8 hr h1 (Ņ H x) (Ņ H y))
 |nilCheck x =>
  rw[hop] at e;simp only[opR,opK] at e;have hv:=Ņ H x
  split at e<;>try (cases e; done)
  ·rename_i id off he;cases e;rw[he] at hv;have hv':=hv;obtain⟨cs,b,h1,h2,h3⟩:=hv';exact acU.still hr (by unfold execOp; rw[hop]; simp only[h3]; rfl) (h3▸hv)
  ·rename_i t x' off he;cases e;rw[he] at hv;have hv':=hv;obtain⟨b,o',us,h3,h4⟩:=hv';exact acU.still hr (by unfold execOp; rw[hop]; simp only[h3]; rfl) (h3▸hv)
  ·rename_i id g i off he
   split at e<;>try (cases e; done)
   rename_i t g' fz xs hl
   split at e<;>try (cases e; done)
   rename_i hgg;cases e;rw[he] at hv;have hv':=hv;obtain⟨ho,t2,g2,fz2,xs2,hl2,hle,hf⟩:=hv';rw[hl] at hl2; cases hl2;obtain⟨_,b,o',cap,_,h3⟩:=hf (eq_of_beq hgg);exact acU.still hr (by unfold execOp; rw[hop]; simp only[h3]; rfl) (h3▸hv)
 |binOp op t x y yt =>
  rw[hop] at e;simp only[opR,opK] at e;rw[Ad] at e;obtain⟨v',h1,h2⟩:=Η e;cases h2
  have hx:execOp a.eval o=(do let u ←(do eqGuard op t x y (a.eval x) (a.eval y); binOp op t (a.eval x) (a.eval y)); pure (.value u)):=by unfold execOp; rw[hop]
  rw[hx];exact(ahS x y hr h1 (Ņ H x) (Ņ H y)).step
 |unOp op t x =>
  rw[hop] at e;simp only[opR,opK] at e
  have hx:execOp a.eval o=(do let u ←Op.unary op (a.eval x); pure (.value u)):=by unfold execOp; rw[hop]
  rw[hx];have hv:=Ņ H x
  split at e<;>try (cases e; done)
  ·rename_i b he;cases e;rw[he] at hv;exact(adi (op:=.not) hr hv rfl).step
  ·rename_i k n he;rw[CT] at e;obtain⟨v',h1,h2⟩:=Η e;cases h2;rw[he] at hv;exact(adi (op:=.neg) hr hv h1).step
 |convert src dst x =>
  rw[hop] at e;simp only[opR,opK] at e
  have hx:execOp a.eval o=(do let u ←convert src dst (a.eval x); pure (.value u)):=by unfold execOp; rw[hop]
  rw[hx];have hv:=Ņ H x
  split at e<;>try (cases e; done)
  rename_i d k k' n hs hd he;cases e;rw[he] at hv;have hv:a.eval x=.int k' n:=hv;refine(ξ.still (v:=.int k (k.wrap n)) (u:=.int k (k.wrap n)) hr ?_ rfl).step;rw[hv];simp only[convert,Sem.run_bind,run_underlying hs,run_underlying hd,Result.andThen_ok];simp[Conv.intToInt]
 |makeFunc fn first caps =>
  rw[hop] at e;simp only[opR,opK] at e
  split at e<;>try (cases e; done)
  rename_i hc;simp only[cH,di] at hc;cases e
  have hx:execOp a.eval o=(do let u ←Instr.makeFunc fn (first.map a.eval) (caps.map a.eval); pure (.value u)):=by unfold execOp; rw[hop]
  rw[hx];refine(ξ.still (v:=.fn fn (first.toList.map (ev S.t)) (caps.toList.map (ev S.t))) (u:=.func fn (first.map a.eval) (caps.map a.eval)) hr rfl ⟨_,_,rfl,?_,?_⟩).step
  ·rw[f5];exact ý.of_map fun x hx=>aeL (hc.1 _ (List.mem_map_of_mem hx)) (Ņ H x)
  ·rw[f5];exact ý.of_map fun x hx=>aeL (hc.2 _ (List.mem_map_of_mem hx)) (Ņ H x)
 |makeMap t r =>
  rw[hop] at e;simp only[opR,opK] at e
  split at e<;>try (cases e; done)
  rename_i kt et ht
  split at e<;>try (cases e; done)
  rename_i k v' hk hv
  split at e<;>try (cases e; done)
  cases e;obtain⟨h1,h2⟩:=hn (by rw[hop]; rfl)
  have hx:execOp a.eval o=(do let u ←Instr.makeMap t none; pure (.value u)):=by unfold execOp; rw[hop]; rfl
  rw[hx];exact(ab8 k v' hr h1 h2).step
 |makeSlice t l c =>
  rw[hop] at e;simp only[opR,opK] at e
  split at e<;>try (cases e; done)
  rename_i k n el hsame hl hel
  split at e<;>try (cases e; done)
  rename_i ty hty
  split at e<;>try (cases e; done)
  rename_i hrow
  split at e<;>try (cases e; done)
  rename_i zs hzs
  split at e<;>try (cases e; done)
  rename_i z hz
  split at e<;>try (cases e; done)
  rename_i hb;simp only[cH,decide_eq_true_eq,ê] at hb;cases e;obtain⟨h1,h2⟩:=hn (by rw[hop]; rfl);have hv:=Ņ H l;rw[hl] at hv;have hv:a.eval l=.int k n:=hv
  have hc:a.eval c=.int k n:=by rw[←adF (S:=S) hsame,hv]
  have hx:execOp a.eval o=(do let u ←Instr.makeSlice t (.int k n) (.int k n); pure (.value u)):=by unfold execOp; rw[hop]; simp only[hv,hc]
  rw[hx];exact(Vl hr h1 h2 hel hrow hzs hz hb.1 hb.2).step
 |slice t x lo hi mx =>
  rw[hop] at e;simp only[opR,opK] at e
  split at e<;>try (cases e; done)
  rename_i el ht
  split at e<;>try (cases e; done)
  rename_i sz hs;rw[zq] at e;obtain⟨⟨v',h'⟩,h1,h2⟩:=Η e;cases h2
  have hx:execOp a.eval o=(do let u ←Instr.sliceAt t (a.eval x) (lo.map a.eval) (hi.map a.eval) none; pure (.value u)):=by unfold execOp; rw[hop]; rfl
  rw[hx];refine(agI hr ht hs h1 (Ņ H x) (fun y hy=>?_) (fun hy=>?_) (fun y hy=>?_) (fun hy=>?_)).step
  ·cases lo with
   |none=>cases hy
   |some l=>cases hy; exact⟨_,rfl,Ņ H l⟩
  ·cases lo with
   |none=>rfl
   |some l=>cases hy
  ·cases hi with
   |none=>cases hy
   |some l=>cases hy; exact⟨_,rfl,Ņ H l⟩
  ·cases hi with
   |none=>rfl
   |some l=>cases hy
 |fieldAddr t x f =>
  rw[hop] at e;simp only[opR,opK] at e
  split at e<;>try (cases e; done)
  rename_i fs ht
  split at e<;>try (cases e; done)
  rename_i fd hf
  split at e<;>try (cases e; done)
  rename_i n hs;rw[pF] at e;obtain⟨v',h1,h2⟩:=Η e;cases h2
  have hx:execOp a.eval o=(do let u ←Instr.fieldAt t (a.eval x) f; pure (.value u)):=by unfold execOp; rw[hop]
  rw[hx];exact(W0 hr ht hf hs h1 (Ņ H x)).step
 |field t x f =>
  rw[hop] at e;simp only[opR,opK] at e;have hv:=Ņ H x
  split at e<;>try (cases e; done)
  rename_i fs cs ht hc
  split at e<;>try (cases e; done)
  rename_i fd hf
  split at e<;>try (cases e; done)
  rename_i agg n hl
  split at e<;>try (cases e; done)
  rename_i ds hg
  split at e<;>try (cases e; done)
  rename_i v' hm;cases e;rw[hc] at hv
  have hx:execOp a.eval o=(do let u ←Instr.field t (a.eval x) f; pure (.value u)):=by unfold execOp; rw[hop]
  rw[hx];exact(ahq hr ht hf hl hg hm hv).step
 |indexAddr t x i =>
  rw[hop] at e;simp only[opR,opK] at e
  have hx:execOp a.eval o=(do let u ←Instr.indexAt t (a.eval x) (a.eval i); pure (.value u)):=by unfold execOp; rw[hop]
  rw[hx]
  split at e<;>try (cases e; done)
  ·rename_i el ht
   split at e<;>try (cases e; done)
   rename_i sz hs;rw[pK] at e;obtain⟨v',h1,h2⟩:=Η e;cases h2;exact(ahj hr ht hs h1 (Ņ H x) (Ņ H i)).step
  ·rename_i n el ht;have hv:=Ņ H x;have hi:=Ņ H i
   split at e<;>try (cases e; done)
   rename_i id off k j hx' hi'
   split at e<;>try (cases e; done)
   rename_i sz hs;rw[iN] at e;obtain⟨q,h1,h2⟩:=Η e;obtain⟨rfl,_,hb⟩:=FY h1;cases h2;rw[hx'] at hv;rw[hi'] at hi;have hi:a.eval i=.int k (q:Int):=hi;rw[hi];have:=(ML hr ht (j:=(q:Int)) (k:=k) ⟨by omega,by omega⟩ hs hv).step;simpa using this
 |index t x i =>
  rw[hop] at e;simp only[opR,opK] at e
  have hx:execOp a.eval o=(do let u ←Instr.index t (a.eval x) (a.eval i); pure (.value u)):=by unfold execOp; rw[hop]
  rw[hx];have hv:=Ņ H x;have hi:=Ņ H i
  split at e<;>try (cases e; done)
  rename_i n el cs k j ht hx' hi';rw[iN] at e;obtain⟨q,h1,h2⟩:=Η e;obtain⟨rfl,_,hb⟩:=FY h1
  split at h2<;>try (cases h2; done)
  rename_i agg m hl
  split at h2<;>try (cases h2; done)
  rename_i ds hg
  split at h2<;>try (cases h2; done)
  rename_i v' hm;cases h2;rw[hx'] at hv;rw[hi'] at hi;have hi:a.eval i=.int k (q:Int):=hi;rw[hi];exact(Za hr ht (j:=(q:Int)) (k:=k) ⟨by omega,by omega⟩ hl (by simpa using hg) hm hv).step
 |lookup t m i ok =>
  rw[hop] at e;simp only[opR,opK] at e;rw[mT] at e;obtain⟨v',h1,h2⟩:=Η e;cases h2
  have hx:execOp a.eval o=(do let u ←Instr.lookup t (a.eval m) (a.eval i) ok; pure (.value u)):=by unfold execOp; rw[hop]
  rw[hx];exact(aes hr h1 (Ņ H m) (Ņ H i)).step
 |mapUpdate t m i x =>
  rw[hop] at e;simp only[opR,opK] at e;rw[ng] at e;obtain⟨h',h1,h2⟩:=Η e;cases h2
  have hx:execOp a.eval o=(do Instr.mapUpdate t (a.eval m) (a.eval i) (a.eval x); pure .skip):=by unfold execOp; rw[hop]
  rw[hx];exact Ui (Vi hr h1 (Ņ H m) (Ņ H i) (Ņ H x))
 |extract x i =>
  rw[hop] at e;simp only[opR,opK] at e;have hv:=Ņ H x
  split at e<;>try (cases e; done)
  rename_i vs hvs
  split at e<;>try (cases e; done)
  rename_i v' hv';cases e;rw[hvs] at hv;obtain⟨us,hu,h2⟩:=hv;obtain⟨u,h3,h4⟩:=h2.get hv';refine acU.still hr (u:=u) (by unfold execOp; rw[hop]; simp only[hu]; simp at h3; simp[Instr.extract,h3]) ?_
  cases ht:v.isTup with
  |true =>
   cases v<;>try cases ht
   exact h4.elim
  |false=>rw[xp ht]; exact h4
 |call c =>
  obtain⟨f,args,tys⟩:=c;rw[hop] at e
  cases f with
  |value f=>cases e
  |invoke r n=>cases e
  |builtin b =>
   simp only[opR,opK] at e
   split at e
   ·-- len
    rename_i x t rest hargs htys;rw[zI] at e;obtain⟨v',h1,h2⟩:=Η e;cases h2;rw[kF (S:=S) (f:=Builtin.len_) hop (fun _ _=>rfl),arr1 hargs,show Array.map a.eval #[x]=#[a.eval x] by simp]
    have ht0:tys[0]?=some t:=by rw[←gy,htys]; rfl
    exact(len_ok hr h1 (Ņ H x) ht0).step
   ·rename_i s x t t' hargs htys;obtain⟨h1,h2⟩:=hn (by rw[hop]; rfl);rw[kF (S:=S) (f:=Builtin.append_) hop (fun _ _=>rfl),arr2 hargs,arr2 htys,show Array.map a.eval #[s,x]=#[a.eval s,a.eval x] by simp]
    split at e
    ·rename_i htt;have htt:=eq_of_beq htt;subst htt;have hvx:=Ņ H x
     split at e
     ·rename_i id g hdp;rw[hdp] at hvx;rw[Fv] at e;obtain⟨⟨v',h'⟩,h3,h4⟩:=Η e;cases h4;exact(ajC hr h1 h2 h3 (Ņ H s) hvx).step
     ·rw[wJ] at e;obtain⟨⟨v',h'⟩,h3,h4⟩:=Η e;cases h4;exact(af8 hr h1 h2 h3 (Ņ H s) hvx).step
    ·split at e<;>try (cases e; done)
     rename_i hu;rw[zo] at e;obtain⟨⟨v',h'⟩,h3,h4⟩:=Η e;cases h4;exact(agv hr h1 h2 hu h3 (Ņ H s) (Ņ H x)).step
   ·rename_i x t hargs htys
    split at e<;>try (cases e; done)
    rename_i d hd;rw[Aa] at e;obtain⟨h',h1,h2⟩:=Η e;cases h2;rw[kF (S:=S) (f:=Builtin.clear_) hop (fun _ _=>rfl),arr1 hargs,show Array.map a.eval #[x]=#[a.eval x] by simp]
    have ht0:tys[0]?=some t:=by rw[←gy,htys]; rfl
    exact(ahC ht0 hr h1 (by rw[hd]; rfl) (Ņ H x)).step
   ·rename_i x t rest hargs htys
    split at e<;>try (cases e; done)
    rename_i el ht hx;cases e;have hv:=Ņ H x;rw[hx] at hv;have hv:a.eval x=.slice none 0 0:=hv;rw[kF (S:=S) (f:=Builtin.cap_) hop (fun _ _=>rfl),arr1 hargs]
    have ht0:tys[0]?=some t:=by rw[←gy,htys]; rfl
    exact(ξ.still (v:=.int .i64 0) (u:=.int .i64 0) hr (by simp[Builtin.cap_,ht0,hv,run_underlying ht,goInt]) rfl).step
   ·rename_i x xs hargs;rw[iF] at e;obtain⟨v',h1,h2⟩:=Η e;cases h2;rw[kF (S:=S) (f:=Builtin.min_) hop (fun _ _=>rfl)];obtain⟨u,h3,h4⟩:=Kz (P:=P) (f:=Builtin.min2) (gt:=false) (fun k p q=>agS k p q) (xs.map (ev S.t)) (xs.map a.eval) _ v (a.eval x) h1 (Ņ H x) (ý.of_map fun y _=>Ņ H y);refine(ξ.still hr ?_ h4).step;simp only[Builtin.min_,f5,hargs,eE];exact h3
   ·rename_i x xs hargs;rw[iF] at e;obtain⟨v',h1,h2⟩:=Η e;cases h2;rw[kF (S:=S) (f:=Builtin.max_) hop (fun _ _=>rfl)];obtain⟨u,h3,h4⟩:=Kz (P:=P) (f:=Builtin.max2) (gt:=true) (fun k p q=>agT k p q) (xs.map (ev S.t)) (xs.map a.eval) _ v (a.eval x) h1 (Ņ H x) (ý.of_map fun y _=>Ņ H y);refine(ξ.still hr ?_ h4).step;simp only[Builtin.max_,f5,hargs,eE];exact h3
   ·cases e
 |_=>rw[hop] at e; cases e
end
end Go.Am
end

noncomputable section
namespace Go.Am
variable [Ghost]
def Ŗ (nid:Nat) (h h':List Blk):Prop:=∀j,j≠nid→lkB h j=.dead→lkB h' j=.dead
def Ŗ.refl (nid:Nat) (h:List Blk):Ŗ nid h h:=fun _ _ hd=>hd
def Ŗ.upd {nid id:Nat} {h:List Blk} (B:Blk) (hl:id=nid∨lkB h id≠.dead):Ŗ nid h (ð h id B):=fun j hj hd=>by
 rw[Ó]
 ·exact hd
 ·rintro rfl;rcases hl with rfl|hl
  ·exact hj rfl
  ·exact hl hd
def Ŗ.trans {nid:Nat} {h h' h'':List Blk} (h1:Ŗ nid h h') (h2:Ŗ nid h' h''):Ŗ nid h h'':=fun j hj hd=>h2 j hj (h1 j hj hd)
def Ŗ.upd2 {nid i j:Nat} {h:List Blk} (A B:Blk) (hi:lkB h i≠.dead) (hl:j=nid∨lkB h j≠.dead):Ŗ nid h (ð (ð h i A) j B):=fun m hm hd=>by
 have h1:m≠i:=fun e=>hi (by rw[←e]; exact hd);have h2:m≠j:=fun e=>hl.elim (fun q=>hm (e.trans q)) fun q=>q (by rw[←e]; exact hd);rw[Ó _ h2,Ó _ h1];exact hd
def Ŗ.frz {nid:Nat} {h:List Blk} (v:AV):Ŗ nid h (frz h v):=fun _ _ hd=>aaU hd
def Ŗ.frzA {nid:Nat} {h:List Blk} (ps:List (Nat×AV)):Ŗ nid h (frzA h ps):=fun _ _ hd=>MP ps hd
def mD {h:List Blk} {id:Nat} {B:Blk} (hl:lkB h id=B) (hB:B≠.dead):lkB h id≠.dead:=by rw[hl]; exact hB
def ajn {v:AV} {id:Nat} {h:List Blk} {k u:Ty} {es:List (Val k×Val u)} (hl:lkB h id=.map k u es):lkB (frz h v) id=.map k u es:=by
 unfold frz; split
 ·exact Ts _ hl
 ·exact aaX hl
def Px {P:Program} {h h':List Blk} {t:TypeId} {a v:AV} {nid:Nat} (h1:wK P h t a v some=some h'):Ŗ nid h h':=by
 unfold wK at h1
 (repeat' split at h1)<;>first
  |(cases h1; done)
  |(cases h1; exact Ŗ.upd _ (.inr (mD ‹lkB h _=.cells _› (by simp))))
  |(cases h1; exact Ŗ.upd _ (.inr (mD ‹lkB h _=.deep _ _ _› (by simp))))
  |(cases h1; exact(Ŗ.frz _).trans (Ŗ.upd _ (.inr (mD ‹lkB (frz h _) _=.row _ _ _ _› (by simp)))))
def ad6 {P:Program} {S S':St} {o:Op} {nid:Nat} {eat:Bool} {v:AV} (e:opR P S nid eat o=some (v,S')):Ŗ nid S.h S'.h:=by
 unfold opR opK at e;dsimp only at e
 (repeat' split at e)<;>first
  |(cases e; done)
  |(cases e; exact Ŗ.refl _ _)
  |(cases e; exact Ŗ.upd _ (.inl rfl))
  |(cases e; exact(Ŗ.frzA _).trans (Ŗ.upd _ (.inl rfl)))
  |(rw[uI] at e; obtain⟨v',h1,h2⟩:=Η e; cases h2; exact Ŗ.refl _ _)
  |(rw[Ad] at e; obtain⟨v',h1,h2⟩:=Η e; cases h2; exact Ŗ.refl _ _)
  |(rw[CT] at e; obtain⟨v',h1,h2⟩:=Η e; cases h2; exact Ŗ.refl _ _)
  |(rw[pF] at e; obtain⟨v',h1,h2⟩:=Η e; cases h2; exact Ŗ.refl _ _)
  |(rw[pK] at e; obtain⟨v',h1,h2⟩:=Η e; cases h2; exact Ŗ.refl _ _)
  |(rw[mT] at e; obtain⟨v',h1,h2⟩:=Η e; cases h2; exact Ŗ.refl _ _)
  |(rw[zI] at e; obtain⟨v',h1,h2⟩:=Η e; cases h2; exact Ŗ.refl _ _)
  |(rw[iF] at e; obtain⟨v',h1,h2⟩:=Η e; cases h2; exact Ŗ.refl _ _)
  |(rw[pC] at e; obtain⟨h',h1,h2⟩:=Η e; cases h2; exact Px h1)
  | (rw [pC] at e; obtain ⟨h', h1, h2⟩ := Η e; cases h2
     exact(Ŗ.upd _ (.inr (mD ‹lkB S.h _=.row _ _ _ _› (by simp)))).trans (Px h1))
  | (rw [zq] at e; obtain ⟨⟨v', h'⟩, h1, h2⟩ := Η e; cases h2
     unfold qU at h1
     (repeat' split at h1)<;>first
      |(cases h1; done)
      |(cases h1; exact Ŗ.refl _ _)
      |(cases h1; exact Ŗ.upd _ (.inr (mD ‹lkB S.h _=.row _ _ _ _› (by simp)))))
  | (rw [wJ] at e; obtain ⟨⟨v', h'⟩, h1, h2⟩ := Η e; cases h2
     unfold zm at h1
     (repeat' split at h1)<;>first
      |(cases h1; done)
      |(cases h1; exact Ŗ.upd _ (.inl rfl))
      |(cases h1; exact Ŗ.upd _ (.inr (mD ‹lkB S.h _=.row _ _ _ _› (by simp)))))
  | (rw [Ft] at e; obtain ⟨⟨v', h'⟩, h1, h2⟩ := Η e; cases h2
     unfold Zs at h1
     (repeat' split at h1)<;>first
      |(cases h1; done)
      |(cases h1; exact Ŗ.upd2 _ _ (mD ‹lkB S.h _=.row _ _ _ _› (by simp)) (.inl rfl))
      |(cases h1; exact Ŗ.upd2 _ _ (mD ‹lkB S.h _=.deep _ _ _› (by simp)) (.inl rfl)))
  | (rw [Fv] at e; obtain ⟨⟨v', h'⟩, h1, h2⟩ := Η e; cases h2
     unfold W7 at h1
     split at h1<;>try (cases h1; done)
     split at h1<;>try (cases h1; done)
     split at h1<;>try (cases h1; done)
     rename_i hl2
     split at h1<;>try (cases h1; done)
     (repeat' split at h1)<;>first
      |(cases h1; done)
      |(cases h1; exact Ŗ.upd2 _ _ (mD hl2 (by simp)) (.inl rfl))
      |(cases h1; exact Ŗ.upd2 _ _ (mD hl2 (by simp)) (.inr (mD (by assumption) (by simp)))))
  | (rw [zo] at e; obtain ⟨⟨v', h'⟩, h1, h2⟩ := Η e; cases h2
     unfold HE at h1
     (repeat' split at h1)<;>first
      |(cases h1; done)
      |(cases h1; exact Ŗ.upd _ (.inl rfl)))
  | (rw [Aa] at e; obtain ⟨h', h1, h2⟩ := Η e; cases h2
     unfold Io at h1
     (repeat' split at h1)<;>first
      |(cases h1; done)
      |(cases h1; exact Ŗ.refl _ _)
      |(cases h1; exact Ŗ.upd _ (.inr (mD ‹lkB S.h _=.row _ _ _ _› (by simp)))))
  | (rw [iN] at e; obtain ⟨q, h1, h2⟩ := Η e
     (repeat' split at h2)<;>first
      |(cases h2; done)
      |(cases h2; exact Ŗ.refl _ _))
  | (rw [ng] at e; obtain ⟨h', h1, h2⟩ := Η e; cases h2
     unfold kP at h1
     (repeat' split at h1)<;>first
      |(cases h1; done)
      |(cases h1; exact(Ŗ.frz _).trans (Ŗ.upd _ (.inr (mD (ajn ‹lkB S.h _=.map _ _ _›) (by simp))))))
end Go.Am
end

noncomputable section
namespace Go.Am
variable [Ghost]
section
variable {ρ:Type} {ν ν':Nat→Value} {h h':List Blk} {w w':World} {P:Program}
def Ev.same (hh:∀id,lkB h' id=lkB h id) (hw:w'.heap=w.heap) (h1:w'.os=w.os) (h2:w'.tape=w.tape) (h3:w'.output=w.output) (m:Nat):Ev m ν h w ν h' w' :=
 ⟨h1,h2,h3,by rw[hw]; exact cG _,fun b _ hb=>⟨by rw[hw],fun⟨id,q1,q2⟩=>hb ⟨id,by rwa [hh] at q1,q2⟩⟩,fun id _=>by rw[hh]; exact Blk.next_refl _ _ _⟩
def HR.same (H:HR ν h w) (hh:∀id,lkB h' id=lkB h id) (hw:w'.heap=w.heap) (h1:w'.os=w.os) (h2:w'.tape=w.tape) (h3:w'.output=w.output):HR ν h' w':=by
 refine⟨fun id=>?_,fun i j b q1 q2=>H.inj i j b (by rwa [hh] at q1) (by rwa [hh] at q2),fun b hb=>by rw[hw]; exact H.ghlt b hb,fun id b q1=>H.ghne id b (by rwa [hh] at q1)⟩;rw[hh];exact BR.ev (Ev.same hh hw h1 h2 h3 _) (fun b o hb _=>by rw[hw]; exact hb) rfl (fun b _ _ _=>by rw[hw]) (H.blk id)
def Sim.same {S:St} {a:Act} (H:Sim ν S a w) (hh:∀id,lkB h' id=lkB S.h id) (hw:w'.heap=w.heap) (h1:w'.os=w.os) (h2:w'.tape=w.tape) (h3:w'.output=w.output):Sim ν {t:=S.t,h:=h'} a w' :=
 ⟨H.defers.keep (by rw[hw]; exact cG _) (fun b o hb _=>by rw[hw]; exact hb),H.len,fun i=>(H.tmps i).ev (Ev.same hh hw h1 h2 h3 _),H.heap.same hh hw h1 h2 h3⟩
def WJ:∀(h:List Blk) (d:Nat),h.length≤d→lkB h d=.dead
 |[],_,_=>rfl
 |x::xs,0,h=>by simp at h
 |x::xs,d+1,h=>by simpa[lkB] using WJ xs d (by simpa using h)
def Tg:∀(h:List Blk) (n id:Nat),lkB (h++List.replicate n .dead) id=lkB h id
 |[],0,_=>rfl
 |[],n+1,0=>rfl
 |[],n+1,id+1=>by simpa[f9,lkB] using Tg [] n id
 |x::xs,n,0=>rfl
 |x::xs,n,id+1=>by simpa[lkB] using Tg xs n id
abbrev fen:Fence:={Fence.wide with round:=Ghost.Q}
def abC (P:Program) (L:Nat) (call:List Nat→Bool→Nat→List AV→List Blk→(AV→List Blk→Option ρ)→Option ρ):Prop :=
 ∀path draw g args h (K:AV→List Blk→Option ρ) r,path.length=L→call path draw g args h K=some r→∀ν w vals,HR ν h w→Ghost.B≤w.heap.size→ý (VR ν h w) args vals →
  (∃fn c,P.funcs[g]?=some fn∧fn.body=some c) ∧
  CallsIn Fence.wide 0 P g vals.toArray w fun e w'=>∃ν' h' v u,e=.returned u∧VR ν' h' w' v u∧HR ν' h' w'∧Ev h.length ν h w ν' h' w'∧h.length≤h'.length∧(∀j,j<h.length→lkB h j=.dead→lkB h' j=.dead)∧K v h'=some r
def HD (P:Program) (clone:Nat→Bool):Prop :=
 ∀g,clone g=true→∀fz S nid x v S',zc P g fz S nid x (fun v S=>some (v,S))=some (v,S')→∀ν w u,HR ν S.h w→VR ν S.h w x u→nid<S.h.length→lkB S.h nid=.dead →
  (∃fn c,P.funcs[g]?=some fn∧fn.body=some c) ∧
  CallsIn Fence.wide 0 P g #[u] w fun e w'=>∃ν' u',e=.returned u'∧VR ν' S'.h w' v u'∧HR ν' S'.h w'∧Ev S.h.length ν S.h w ν' S'.h w'∧S.h.length≤S'.h.length∧Ŗ nid S.h S'.h∧S'.t=S.t
def Ht (P:Program) (g:Nat) (fz:Bool) (S:St) (nid:Nat) (x:AV) (K:AV→St→Option ρ):zc P g fz S nid x K=(zc P g fz S nid x fun v S=>some (v,S)).bind fun r=>K r.1 r.2:=by
 unfold zc; (repeat' split)<;>rfl
def Aft (m:Nat) (ν:Nat→Value) (h:List Blk) (w:World) (K:St→Option ρ) (r:ρ) (a':Act) (w':World):Prop :=
 ∃ν' S',Sim ν' S' a' w'∧Ev m ν h w ν' S'.h w'∧h.length≤S'.h.length∧K S'=some r
def Aft.trans {m m':Nat} {K:St→Option ρ} {r:ρ} {a':Act} {ν ν₁:Nat→Value} {h h₁:List Blk} {w w₁ w':World} (e:Ev m ν h w ν₁ h₁ w₁) (hl:h.length≤h₁.length) (hm:m≤m') (ha:Aft m' ν₁ h₁ w₁ K r a' w'):Aft m ν h w K r a' w':=by
 obtain⟨ν',S',h1,h2,h3,h4⟩:=ha;exact⟨ν',S',h1,e.trans h2 hm,cY hl h3,h4⟩
def op_nid {S:St} {o:Op} {nid nid':Nat} {eat:Bool} {clone:Nat→Bool} (hal:Ē clone o=false):opR P S nid eat o=opR P S nid' eat o:=by
 cases o<;>try first|rfl|(cases hal; done)
 rename_i c;obtain⟨f,args,tys⟩:=c
 cases f<;>try rfl
 rename_i b
 cases b<;>first|(cases hal; done)|rfl|(unfold opR opK; dsimp only; (repeat' split)<;>first|rfl|simp_all)
def YldP (P:Program) (y:YFun):Prop:=∃he:y.ty=Ghost.T,∀(O X:Nat→Prop) (pre:List (Val Ghost.T)) (v:Val Ghost.T) (u:Value) (W:World),Ghost.J O X pre W→(∀b,O b→X b)→(∀b,X b→b<W.heap.size)→(pre++[v] <+: wE (F:=fun t=>List (Val t)) he y.all)→CR W X Ghost.T v [u]→Ghost.B≤W.heap.size →
 YieldAt Fence.wide 0 P Ghost.L #[u] W fun e W'=>e=.returned (.bool true)∧W'.os=W.os∧W'.tape=W.tape∧W'.output=W.output∧W.heap.size≤W'.heap.size ∧
  ∃us,(∀b,b<W.heap.size→¬O b→W'.heap[b]?=W.heap[b]?∧¬Ļ (.agg us) b)∧(∀b,Ļ (.agg us) b→∃o,W'.heap[b]?=some o∧NR o=true)∧Ghost.J (Ļ (.agg us)) (fun b=>(X b∧¬O b)∨Ļ (.agg us) b) (pre++[v]) W'
def kh (E:Env ρ):Prop:=∀y,E.yld=some y→YldP E.P y
def i5 {E:Env ρ} (h:E.yld=none):kh E:=fun y e=>by rw[h] at e; cases e
def aiA {α:Type} {all l:List α} {k:Option ρ} {r:ρ} (h:yg all l k=some r):l <+: all∧k=some r:=by
 unfold yg at h
 split at h
 ·exact⟨‹_›,h⟩
 ·cases h
def abI {t:Ty} (ht:t.isAgg=false) {a:AV} {v:Val t} (e:Ú t [a]=some v):a.isAgg=false∧a.isTup=false:=by
 cases t<;>first|(cases ht; done)|(cases a<;>first|exact⟨rfl,rfl⟩|cases e)
def XS (h:List Blk) {a:AV} (e:(ÿ h a).isAgg=false∧(ÿ h a).isTup=false):a.isAgg=false∧a.isTup=false:=by
 cases a<;>first|exact⟨rfl,rfl⟩|exact e
def ac6 {E:Env ρ} (hy:kh E) {x:AV} {u:Value} {K:AV→List Blk→Option ρ} {r:ρ} (H:HR ν h w) (hv:VR ν h w x u) (hB:Ghost.B≤w.heap.size) (e:yldK E h x K=some r) :
 YieldAt Fence.wide 0 E.P Ghost.L #[u] w fun e w'=>e=.returned (.bool true)∧∃ν' h',HR ν' h' w'∧Ev h.length ν h w ν' h' w'∧h'.length=h.length∧(∀j,lkB h j=.dead→lkB h' j=.dead)∧K (.bool true) h'=some r:=by
 unfold yldK at e
 split at e<;>try (cases e; done)
 rename_i y hE
 split at e<;>try (cases e; done)
 rename_i hag
 split at e<;>try (cases e; done)
 rename_i hnm
 split at e<;>try (cases e; done)
 rename_i v hvv
 split at e<;>try (cases e; done)
 rename_i t xs hl
 split at e<;>try (cases e; done)
 rename_i he hq;clear hq;obtain⟨ty,all⟩:=y;obtain⟨hT,hY⟩:=hy _ hE;have he':t=ty:=he;subst he';have hT':t=Ghost.T:=hT;subst hT';obtain⟨hpre,hk⟩:=aiA e;obtain⟨hx1,hx2⟩:=XS h (abI hag hvv);have hv1:=hv.one hx1 hx2;obtain⟨ev1,H1,_⟩:=MR H x;have hcr:CR w (Av ν (qG h x)) Ghost.T v [u]:=ğ hvv ⟨MQ H hv1 hnm,trivial⟩;have hb:=H1.blk 0;rw[hl] at hb;obtain⟨us0,h1,h2,h3,h4⟩:=hb;obtain⟨fn,tmps,assign,body,hrun,hR⟩:=hY _ _ xs v u w h4 (fun b hb=>.inl ⟨0,by rw[hl]; rfl,hb⟩) (fun b hb=>H1.ltA hb) hpre hcr hB;refine⟨fn,tmps,assign,body,hrun,hR.mono fun e' w' hw=>?_⟩;obtain⟨rfl,o1,o2,o3,o4,us,o5,o6,o7⟩:=hw;refine⟨rfl,?_⟩
 have hlive:(lkB (qG h x) 0).live=true:=by rw[hl]; rfl
 have hid:0<(qG h x).length:=Ű hl (by simp);have hkeep:∀b,b<w.heap.size→((lkB (qG h x) 0).live=true→¬Ļ (ν 0) b)→w'.heap[b]?=w.heap[b]?:=fun b hb hn=>(o5 b hb (hn hlive)).1
 have hV:(Blk.acc Ghost.T (xs++[v])).live=true→∀b,Ļ (.agg us) b→((lkB (qG h x) 0).live=true∧Ļ (ν 0) b)∨w.heap.size≤b:=fun _ b hb=>by
  rcases dg b w.heap.size with hlt|hge
  ·by_cases ho:Ļ (ν 0) b
   ·exact .inl ⟨hlive,ho⟩
   ·exact absurd hb (o5 b hlt ho).2
  ·exact .inr hge
 have ev2:=Ev.upd H1 (B:=.acc Ghost.T (xs++[v])) (V:=.agg us) hid o1 o2 o3 o4 hkeep hV (by rw[hl]; exact⟨_,rfl⟩)
 have H2:HR (ï ν 0 (.agg us)) (ð (qG h x) 0 (.acc Ghost.T (xs++[v]))) w':=by
  refine HR.upd H1 hid ev2 hkeep hV ⟨us,Ï _ _ _,?_,rfl,?_⟩
  ·rw[Ï]; exact o6
  ·rw[Ï];refine Ghost.st _ _ _ _ _ _ o7 ⟨rfl,rfl,rfl,cG _,fun b _ hn=>?_,fun b o hb _ _=>hb,fun b o hb _ _=>hb⟩;rintro(⟨i,hi,hb⟩|hg)
   ·by_cases h0:i=0
    ·subst h0; rw[Ï] at hb; exact hn (.inr hb)
    ·rw[Ó _ h0] at hi;rw[ė _ _ h0] at hb;exact hn (.inl ⟨.inl ⟨i,hi,hb⟩,fun q=>h0 (H1.inj i 0 b hi hlive hb q)⟩)
   ·exact hn (.inl ⟨.inr hg,fun q=>H1.ghne 0 b hlive q hg⟩)
 refine⟨_,_,H2,ev1.trans ev2 (by rw[mX]; exact cG _),by rw[Ñ,mX],fun j hj=>?_,hk⟩;have hd:lkB (qG h x) j=.dead:=MS hj;rw[Ó _ (fun q=>by rw[q,hl] at hd; cases hd)];exact hd
def XX {E : Env ρ} {call : List Nat → Bool → Nat → List AV → List Blk → (AV → List Blk → Option ρ) → Option ρ} {L : Nat} (hcall : abC E.P L call) (hP : ∀ (f : Nat) (fn : Func), E.P.funcs[f]? = some fn → (fn.name == "runtime.NumGoroutine") = false)
 (hclone:HD E.P E.clone) (hyld:kh E)
 {fid:Nat} {path:List Nat} {draw:Bool} {S:St} {a:Act} {nid:Nat} {o:Oper} {K:AV→St→Option ρ} {r:ρ} (hp:path.length=L) (H:Sim ν S a w) (hn:Ē E.clone o.op=true→nid<S.h.length∧lkB S.h nid=.dead)
 (e:χ E call fid path draw S nid o K=some r) {next:Act→World→Prop} {Q:Exit→Act→World→Prop}
 (hk:∀(ν':Nat→Value) (w':World) (u:Value) (v:AV) (S':St),VR ν' S'.h w' v u→HR ν' S'.h w'→Ev S.h.length ν S.h w ν' S'.h w'→S.h.length≤S'.h.length→(∀j,j<S.h.length→j≠nid∨Ē E.clone o.op=false→lkB S.h j=.dead→lkB S'.h j=.dead)→S'.t=S.t→K v S'=some r→next (a.put o.dst u) w') :
 o.wpIn fen 0 E.P a w next Q:=by
 refine⟨fun _ _=>trivial,?_⟩
 have hnd:∀c,o.op≠.defer c:=by
  intro c hc;unfold χ at e
  split at e<;>try (cases e; done)
  split at e
  ·rename_i hop;rw[hc] at hop; cases hop
  ·rw[hc] at e;cases e
 rw[Oper.semAt_eq _ _ _ hnd]
 have plain:∀v S',opR E.P S nid (Pj E draw fid o) o.op=some (v,S')→K v S'=some r→o.uponIn fen 0 E.P a next Q ((execOp a.eval o).run E.P w):=by
  intro v S' h1 h2;obtain⟨ν',w',u,h3,h4,h5,h6,h7,h8⟩:=agZ (clone:=E.clone) H hn h1
  have:=hk ν' w' u v S' h4 h5 h6 (gK h7.symm) (fun j _ hj hd=>by
   rcases hj with hj|hal
   ·exact ad6 h1 j hj hd
   ·rw[op_nid (nid':=j+1) hal] at h1
    exact ad6 h1 j (by omega) hd) h8 h2
  rcases h3 with h3|⟨h3,rfl⟩
  ·rw[h3]; exact this
  ·rw[h3]; exact this
 unfold χ at e
 split at e<;>try (cases e; done)
 split at e
 ·rename_i f args tys hop
  split at e<;>try (cases e; done)
  rotate_left
  ·rename_i hf
   split at e<;>try (cases e; done)
   rename_i x hargs
   have hfe:a.eval f=.func (.yield Ghost.L) #[] #[]:=by
    have:=Ņ H f;rw[hf] at this;exact this
   obtain⟨fn,tmps,assign,body,hrun,hR⟩:=ac6 hyld H.heap (Ņ H x) H.defers.bnd e
   have hx:(execOp a.eval o).run E.P w=.ok (.round Ghost.L fn tmps assign body) w:=by
    rw[←hrun];unfold execOp;rw[hop,arr1 hargs];simp[resolve,hfe,Deferred.ofValue,invoke,Sem.run_bind,Result.andThen_ok,callFunc,run_program]
   rw[hx,Oper.uponIn_round];refine⟨fun hf=>(by cases hf),RoundIn.mono (show RoundIn fen 0 E.P _ _ _ _ _ _ _ from hR) fun e' w' hw=>?_⟩;obtain⟨rfl,ν',h',g1,g2,g3,g4,g5⟩:=hw;exact hk ν' w' (.bool true) (.bool true) {t:=S.t,h:=h'} rfl g1 g2 (gK g3.symm) (fun j _ _ hd=>g4 j hd) rfl g5
  rename_i g first caps hf;have hfv:=Ņ H f;rw[hf] at hfv;obtain⟨fs,cs,hfe,hfirst,hcaps⟩:=hfv
  split at e
  ·rename_i hcl
   split at e<;>try (cases e; done)
   rename_i x hargs;rw[Ht] at e;obtain⟨⟨v,S'⟩,h1,h2⟩:=Η e;simp only[cH] at hcl;obtain⟨hcl,hlit⟩:=hcl
   have hfg:f=.func g:=by
    cases f<;>try (cases hlit; done)
    simp only[ev] at hf
    injection hf with q1
    injection q1 with q1
    rw[q1]
   subst hfg;obtain⟨hn1,hn2⟩:=hn (by rw[hop]; exact hcl);obtain⟨⟨fn,c,hfn,hbody⟩,hc⟩:=hclone g hcl _ S nid _ v S' h1 ν w _ H.heap (Ņ H x) hn1 hn2
   have hx:(execOp a.eval o).run E.P w=.ok (.enter g #[a.eval x]) w:=by
    unfold execOp;rw[hop,arr1 hargs];simp only[resolve,Act.eval,Deferred.ofValue,pure_bind,invoke,callFunc,Sem.run_bind,run_program,Result.andThen_ok,hfn,hP g fn hfn,hbody];simp only[Bool.false_eq_true,if_false,Option.isNone_some];show Result.ok (Next.enter g _) w=_;congr 2;apply Array.ext'
    cases x<;>simp[Act.eval]
   rw[hx,Oper.uponIn_enter];refine⟨fun hf=>(by cases hf),hc.mono fun e' w' hw=>?_⟩;obtain⟨ν',u',rfl,g1,g2,g3,g4,g6,g5⟩:=hw;exact hk ν' w' u' v S' g1 g2 g3 g4 (fun j _ hj hd=>g6 j (hj.resolve_right (by rw[hop]; exact fun hf=>by rw[show Ē E.clone (.call ⟨.value (.func g),args,tys⟩)=E.clone g from rfl,hcl] at hf; cases hf)) hd) g5 h2
  ·rename_i hcl
   have hargs:ý (VR ν S.h w) (first++(args.toList.map (ev S.t)++caps)) (fs.toList++(args.toList.map a.eval++cs.toList)) :=
    (hfirst.mono fun _ _ q=>q.up.up).append ((ý.of_map fun x _=>Ņ H x).append (hcaps.mono fun _ _ q=>q.up.up))
   obtain⟨⟨fn,c,hfn,hbody⟩,hc⟩:=hcall path draw g _ _ _ r hp e ν w _ H.heap H.defers.bnd hargs
   have hx:(execOp a.eval o).run E.P w=.ok (.enter g (fs.toList++(args.toList.map a.eval++cs.toList)).toArray) w:=by
    unfold execOp;rw[hop];simp only[resolve,hfe,Deferred.ofValue,pure_bind,invoke,callFunc,Sem.run_bind,run_program,Result.andThen_ok,hfn,hP g fn hfn,hbody];simp only[Bool.false_eq_true,if_false,Option.isNone_some];show Result.ok (Next.enter g _) w=_;congr 2;apply Array.ext';simp
   rw[hx,Oper.uponIn_enter];refine⟨fun hf=>(by cases hf),hc.mono fun e' w' hw=>?_⟩;obtain⟨ν',h',v,u,rfl,h1,h2,h3,h4,h6,h5⟩:=hw;exact hk ν' w' u v {t:=S.t,h:=h'} h1 h2 h3 h4 (fun j hj _ hd=>h6 j hj hd) rfl h5
 ·rename_i op hne;rw[Rf] at e;obtain⟨⟨v,S'⟩,h1,h2⟩:=Η e;exact plain v S' h1 h2
def C0:∀(t:List AV) (d:Nat),upd t d (lk t d)=t
 |[],_=>rfl
 |_::_,0=>rfl
 |x::t,d+1=>by simp[upd,lk,C0 t d]
def ah3 (n nid:Nat) (h:List Blk):Prop:=∀j,nid≤j→j<nid+n→j<h.length∧lkB h j=.dead
def nF {clone:Nat→Bool} {o:Oper} {os:List Oper}:iE clone (o::os)=bif Ē clone o.op then iE clone os+1 else iE clone os:=rfl
def Qo {all:List Oper} {o:Oper} {j:Nat} {want:Bool}:∀{l:List Oper},su all l=true→o∈l→o.guard=some (j,want)→∃p d,all[j]?=some p∧p.dst=some d
 |[],_,hm,_=>by cases hm
 |x::l,hg,hm,he=>by
  simp only[su,cH] at hg;rcases cN.1 hm with rfl|hm
  ·have h1:=hg.1;rw[he] at h1;simp only at h1
   split at h1
   ·rename_i p hp;obtain⟨d,hd⟩:=gL.1 h1;exact⟨p,d,hp,hd⟩
   ·cases h1
  ·exact Qo hg.2 hm he
def abD {ops:Array Oper} {tmps:Array Value} {j d:Nat} {p:Oper} (hp:ops.toList[j]?=some p) (hd:p.dst=some d) :
 (∀b,tmps.getD d undef=.bool b→yielded ops tmps j=some b)∧(tmps.getD d undef=undef→yielded ops tmps j=none):=by
 have hp':ops[j]?=some p:=by simpa using hp
 constructor
 ·intro b hb;unfold yielded;rw[hp'];simp only[Option.bind_some,hd]
  cases ht:tmps[d]? with
  |none=>simp[dW,ht,undef] at hb
  |some v=>simp[dW,ht] at hb; subst hb; rfl
 ·intro hb;unfold yielded;rw[hp'];simp only[Option.bind_some,hd]
  cases ht:tmps[d]? with
  |none=>rfl
  |some v=>simp[dW,ht] at hb; subst hb; rfl
def pQ (E:Env ρ) (call:List Nat→Bool→Nat→List AV→List Blk→(AV→List Blk→Option ρ)→Option ρ) (fid:Nat) (path:List Nat) (draw:Bool) (all:List Oper) (i nid:Nat) (o:Oper) (S:St) (K:St→Option ρ):Option ρ :=
 match o.guard with
 |none=>χ E call fid (path++[i]) draw S nid o fun v S=>K {t:=þ S.t o.dst v,h:=S.h}
 |some (j,want)=>match lk S.t (pm all j) with
  |.bool b=>match b==want with
   |true=>χ E call fid (path++[i]) draw S nid o fun v S=>K {t:=þ S.t o.dst v,h:=S.h}
   |false=>K {t:=þ S.t o.dst .und,h:=S.h}
  |.und=>K {t:=þ S.t o.dst .und,h:=S.h}
  |_=>none
def ad3 {E:Env ρ} {call:List Nat→Bool→Nat→List AV→List Blk→(AV→List Blk→Option ρ)→Option ρ} {fid:Nat} {path:List Nat} {draw:Bool} {all:List Oper} {o:Oper} {os:List Oper} {i nid:Nat} {S:St} {K:St→Option ρ} :
 abZ E call fid path draw all (o::os) i nid S K=pQ E call fid path draw all i nid o S fun S'=>abZ E call fid path draw all os (i+1) (bif Ē E.clone o.op then nid+1 else nid) S' K:=by
 simp only[abZ,pQ]
 have hself:∀d b,lk S.t d=.bool b→({t:=upd S.t d (.bool b),h:=S.h}:St)=S:=fun d b hb=>by rw[←hb,C0]
 have htself:∀d b,lk S.t d=.bool b→upd S.t d (.bool b)=S.t:=fun d b hb=>by rw[←hb,C0]
 cases o.guard with
 |none=>rfl
 |some g =>
  obtain⟨j,want⟩:=g;simp only
  cases hb:lk S.t (pm all j)<;>try rfl
  rename_i b;have h1:=hself _ b hb;have h2:=htself _ b hb
  cases b<;>cases want<;>simp only[h1,h2]<;>rfl
def J0 {E : Env ρ} {call : List Nat → Bool → Nat → List AV → List Blk → (AV → List Blk → Option ρ) → Option ρ} {L : Nat} (hcall : abC E.P L call) (hP : ∀ (f : Nat) (fn : Func), E.P.funcs[f]? = some fn → (fn.name == "runtime.NumGoroutine") = false)
 (hclone:HD E.P E.clone) (hyld:kh E) {fid:Nat} {path:List Nat} {draw:Bool} {ops:Array Oper} (hg:su ops.toList ops.toList=true)
 {S:St} {a:Act} {nid i:Nat} {o:Oper} {K:St→Option ρ} {r:ρ} (hp:path.length+1=L) (ho:ops[i]?=some o) (H:Sim ν S a w) (hn:Ē E.clone o.op=true→nid<S.h.length∧lkB S.h nid=.dead)
 (e:pQ E call fid path draw ops.toList i nid o S K=some r) {next:Act→World→Prop} {Q:Exit→Act→World→Prop}
 (hk:∀(ν':Nat→Value) (w':World) (u:Value) (v:AV) (S':St),VR ν' S'.h w' v u→HR ν' S'.h w'→Ev S.h.length ν S.h w ν' S'.h w'→S.h.length≤S'.h.length→(∀j,j<S.h.length→j≠nid∨Ē E.clone o.op=false→lkB S.h j=.dead→lkB S'.h j=.dead)→S'.t=S.t →
  K {t:=þ S'.t o.dst v,h:=S'.h}=some r→next (a.put o.dst u) w') :
 wpOpIn fen 0 E.P ops Q i next a w:=by
 have run:χ E call fid (path++[i]) draw S nid o (fun v S=>K {t:=þ S.t o.dst v,h:=S.h})=some r →
  o.wpIn fen 0 E.P a w next Q:=fun h1=>XX hcall hP hclone hyld (by simpa using hp) H hn h1 hk
 -- it is left out
 have skip:K {t:=þ S.t o.dst .und,h:=S.h}=some r→next (a.put o.dst undef) w :=
  fun h1=>hk ν w undef .und S rfl H.heap (Ev.refl _ _ _ _) (cG _) (fun _ _ _ hd=>hd) rfl h1
 have hmem:o∈ops.toList:=by
  have:ops.toList[i]?=some o:=by simpa using ho
  exact cO this
 unfold wpOpIn;rw[ho];simp only[pQ] at e
 split at e
 ·rename_i hgd
  have hw:Region.wanted o (yielded ops a.tmps)=true:=by simp[Region.wanted,hgd]
  simp only[hw,if_true];exact run e
 ·rename_i j want hgd;obtain⟨p,d,hp,hd⟩:=Qo hg hmem hgd;obtain⟨hy1,hy2⟩:=abD (tmps:=a.tmps) hp hd
  have hslot:pm ops.toList j=d:=by simp[pm,hp,hd]
  rw[hslot] at e;have hv:=H.tmps d
  split at e
  ·rename_i b hb;rw[hb] at hv;have hyb:=hy1 b hv
   split at e
   ·rename_i hbw
    have hw:Region.wanted o (yielded ops a.tmps)=true:=by
     simp only[beq_iff_eq] at hbw;simp[Region.wanted,hgd,hyb,hbw]
    simp only[hw,if_true];exact run e
   ·rename_i hbw
    have hw:Region.wanted o (yielded ops a.tmps)=false:=by
     simp only[beq_eq_false_iff_ne] at hbw;simpa[Region.wanted,hgd,hyb] using hbw
    simp only[hw,cV,if_false];exact⟨fun _ _=>trivial,skip e⟩
  ·rename_i hb;rw[hb] at hv
   have hw:Region.wanted o (yielded ops a.tmps)=false:=by simp[Region.wanted,hgd,hy2 hv]
   simp only[hw,cV,if_false];exact⟨fun _ _=>trivial,skip e⟩
  ·cases e
def ad2 {E : Env ρ} {call : List Nat → Bool → Nat → List AV → List Blk → (AV → List Blk → Option ρ) → Option ρ} {L : Nat} (hcall : abC E.P L call) (hP : ∀ (f : Nat) (fn : Func), E.P.funcs[f]? = some fn → (fn.name == "runtime.NumGoroutine") = false)
 (hclone:HD E.P E.clone) (hyld:kh E) {fid:Nat} {path:List Nat} {draw:Bool} {ops:Array Oper} (hg:su ops.toList ops.toList=true)
 {S:St} {a:Act} {nid i:Nat} {o:Oper} {os:List Oper} {K:St→Option ρ} {r:ρ} (hp:path.length+1=L) (ho:ops[i]?=some o) (H:Sim ν S a w) (hn:ah3 (iE E.clone (o::os)) nid S.h)
 (e:abZ E call fid path draw ops.toList (o::os) i nid S K=some r) {next:Act→World→Prop} {Q:Exit→Act→World→Prop}
 (hk:∀(ν':Nat→Value) (w':World) (u:Value) (v:AV) (S':St),VR ν' S'.h w' v u→HR ν' S'.h w'→Ev S.h.length ν S.h w ν' S'.h w'→S.h.length≤S'.h.length→ah3 (iE E.clone os) (bif Ē E.clone o.op then nid+1 else nid) S'.h→(∀j,j<S.h.length→j<nid→lkB S.h j=.dead→lkB S'.h j=.dead)→S'.t=S.t →
  abZ E call fid path draw ops.toList os (i+1) (bif Ē E.clone o.op then nid+1 else nid) {t:=þ S'.t o.dst v,h:=S'.h} K=some r→next (a.put o.dst u) w') :
 wpOpIn fen 0 E.P ops Q i next a w:=by
 have hn0:Ē E.clone o.op=true→nid<S.h.length∧lkB S.h nid=.dead:=fun hal=>hn nid (cG _) (by rw[nF,hal]; simp)
 have hrest:ah3 (iE E.clone os) (bif Ē E.clone o.op then nid+1 else nid) S.h:=fun j h1 h2=>by
  cases hal:Ē E.clone o.op with
  |true=>rw[hal] at h1 h2; exact hn j (by simp at h1; omega) (by rw[nF,hal]; simp at h2 ⊢; omega)
  |false=>rw[hal] at h1 h2; exact hn j (by simpa using h1) (by rw[nF,hal]; simpa using h2)
 rw[ad3] at e;refine J0 hcall hP hclone hyld hg hp ho H hn0 e fun ν' w' u v S' g1 g2 g3 g4 g5 g6 g7=>hk ν' w' u v S' g1 g2 g3 g4 (fun j h2 h3=>?_) (fun j hj hlt hd=>g5 j hj (.inl (by omega)) hd) g6 g7;obtain⟨h4,h5⟩:=hrest j h2 h3;refine⟨by omega,g5 j h4 ?_ h5⟩
 cases hal:Ē E.clone o.op with
 |true=>left; rw[hal] at h2; simp at h2; omega
 |false=>exact .inr rfl
end
end Go.Am
end

noncomputable section
namespace Go.Am
variable [Ghost]
section
variable {ρ:Type} {ν ν':Nat→Value} {h h':List Blk} {w w':World} {P:Program}
def Dd (m:Nat) (h h':List Blk):Prop:=∀j,j<m→lkB h j=.dead→lkB h' j=.dead
def Dd.refl (m:Nat) (h:List Blk):Dd m h h:=fun _ _ hd=>hd
def Dd.trans {m m':Nat} {h h' h'':List Blk} (h1:Dd m h h') (h2:Dd m' h' h'') (hm:m≤m'):Dd m h h'':=fun j hj hd=>h2 j (dc hj hm) (h1 j hj hd)
def ZS (m:Nat) (ν:Nat→Value) (h:List Blk) (w:World) (K:Exit→St→Option ρ) (r:ρ) (e:Exit) (a':Act) (w':World):Prop :=
 ∃ν' S',Sim ν' S' a' w'∧Ev m ν h w ν' S'.h w'∧m≤S'.h.length∧Dd m h S'.h∧K e S'=some r
def ZS.trans {m m':Nat} {K:Exit→St→Option ρ} {r:ρ} {e:Exit} {a':Act} {ν₁:Nat→Value} {h₁:List Blk} {w₁:World} (ev:Ev m ν h w ν₁ h₁ w₁) (hd:Dd m h h₁) (hm:m≤m') (ha:ZS m' ν₁ h₁ w₁ K r e a' w'):ZS m ν h w K r e a' w':=by
 obtain⟨ν',S',h1,h2,h3,h4,h5⟩:=ha;exact⟨ν',S',h1,ev.trans h2 hm,cY hm h3,hd.trans h4 hm,h5⟩
def agj (E:Env ρ) (call:List Nat→Bool→Nat→List AV→List Blk→(AV→List Blk→Option ρ)→Option ρ):Prop :=
 (∀path draw g args h K,call path draw g args h K=none) ∨
 ((∀ f p, E.pure f = some p → ∀ path draw args h K, call path draw f args h K = QZ (draw && !E.fz f) p h args K) ∧
  (∀f,E.pure f=none→E.sort f=true→∀path draw args h K,call path draw f args h K=match args with|[x]=>QP h x K|_=>none) ∧
  (∀f,E.pure f=none→E.sort f=false→E.compact f=true→∀path draw args h K,call path draw f args h K=match args with|[x]=>pw h x K|_=>none))
def NormOk (m:Nat) (N:St→Option St):Prop:=∀(S S':St) (ν:Nat→Value) (a:Act) (w:World),N S=some S'→Sim ν S a w→m≤S.h.length→∃ν',Sim ν' S' a w∧Ev m ν S.h w ν' S'.h w∧m≤S'.h.length∧Dd m S.h S'.h
def abz (E:Env ρ):Prop:=∀path fid rid m J,E.joins path fid rid m=some J→∃N,NormOk m N∧∀body rest,J body rest=body (fun S=>match N S with|some S'=>rest S'|none=>none)
def Ŕ {E:Env ρ} (h:E.joins=fun _ _ _ _=>none):abz E:=by
 intro path fid rid m J e;rw[h] at e;cases e
structure md (E:Env ρ) (L:Nat) (call:List Nat→Bool→Nat→List AV→List Blk→(AV→List Blk→Option ρ)→Option ρ):Prop where
 pureEq:agj E call
 call:abC E.P L call
 plain : ∀ (f : Nat) (fn : Func), E.P.funcs[f]? = some fn → (fn.name == "runtime.NumGoroutine") = false
 clone:HD E.P E.clone
 joins:abz E
 yld:kh E
def U6 {E:Env ρ} {call:List Nat→Bool→Nat→List AV→List Blk→(AV→List Blk→Option ρ)→Option ρ} {L:Nat} (hE:md E L call) {fid:Nat} {path:List Nat} {draw:Bool} {ops:Array Oper} (hp:path.length+1=L) (hg:su ops.toList ops.toList=true)
 {K:St→Option ρ} {r:ρ} {Q:Exit→Act→World→Prop} {m:Nat}:∀(os:List Oper) (i nid:Nat) (S:St) (a:Act) (ν:Nat→Value) (w:World),(∀k,os[k]?=ops[i+k]?)→Sim ν S a w→ah3 (iE E.clone os) nid S.h→m≤nid→m≤S.h.length →
  abZ E call fid path draw ops.toList os i nid S K=some r →
  (∀ν' S' a' w',Sim ν' S' a' w'→Ev m ν S.h w ν' S'.h w'→m≤S'.h.length→Dd m S.h S'.h→K S'=some r→Q .normal a' w') →
  wpOpsIn fen 0 E.P ops Q (List.range' i os.length) a w
 |[],i,nid,S,a,ν,w,_,H,_,_,hm,e,hQ=>hQ ν S a w H (Ev.refl _ _ _ _) hm (Dd.refl _ _) e
 |o::os,i,nid,S,a,ν,w,ho,H,hn,hmn,hm,e,hQ=>by
  rw[cW,List.range'_succ,wpOpsIn_cons]
  have ho0:ops[i]?=some o:=by have:=ho 0; simpa using this.symm
  refine ad2 hE.call hE.plain hE.clone hE.yld hg hp ho0 H hn e fun ν' w' u v S' h1 h2 h3 h4 h5 h8 h6 h7=>?_;have hput:=H.put h3 h2 o.dst h1
  refine U6 hE hp hg os (i+1) _ {t:=þ S'.t o.dst v,h:=S'.h} _ ν' w' (fun k=>by have:=ho (k+1); rw[show i+1+k=i+(k+1) by omega]; simpa using this) (by rw[h6]; exact hput) h5 (by cases Ē E.clone o.op<;>simp<;>omega) (by simp; omega) h7
   fun ν'' S'' a'' w'' g1 g2 g3 g4 g5=>hQ ν'' S'' a'' w'' g1 ((h3.mono hm).trans g2 (cG _)) g3 (fun j hj hd=>g4 j hj (h8 j (by omega) (by omega) hd)) g5
def X3 {E:Env ρ} {call:List Nat→Bool→Nat→List AV→List Blk→(AV→List Blk→Option ρ)→Option ρ} {L:Nat} (hE:md E L call) {fid rid:Nat} {path:List Nat} {ops:Array Oper} {S:St} {a:Act} {K:Exit→St→Option ρ} {r:ρ} {m:Nat} (hp:path.length+1=L)
 (e:Kc E call fid path false ops.toList S (K .normal)=some r) (H:Sim ν S a w) (hm:m≤S.h.length):(Code.region rid ops false).wpIn fen 0 E.P (ZS m ν S.h w K r) a w:=by
 unfold Kc at e
 split at e<;>try (cases e; done)
 rename_i hg;simp only[Bool.false_and,Bool.false_or,ff] at hg;apply wpIn_region;have hpre:=fun id=>Tg S.h (iE E.clone ops.toList) id;have H1:Sim ν {t:=S.t,h:=S.h++List.replicate (iE E.clone ops.toList) .dead} a w:=H.same hpre rfl rfl rfl rfl;have ev0:Ev m ν S.h w ν (S.h++List.replicate (iE E.clone ops.toList) .dead) w:=Ev.same hpre rfl rfl rfl rfl m
 have:=U6 (m:=m) (Q:=ZS m ν S.h w K r) hE hp hg ops.toList 0 S.h.length _ a ν w (fun k=>by simp) H1 (fun j h1 h2=>⟨by simp; omega,by simp only[hpre]; exact WJ _ _ h1⟩) hm (by simp; omega) e
  (fun ν' S' a' w' g1 g2 g3 g4 g5=>⟨ν',S',g1,ev0.trans g2 (cG _),g3,fun j hj hd=>g4 j hj (by simp only[hpre]; exact hd),g5⟩)
 rw[List.range_eq_range'];simpa using this
def vf (E:Env ρ) (L:Nat) (call:List Nat→Bool→Nat→List AV→List Blk→(AV→List Blk→Option ρ)→Option ρ):Prop :=
 ∀(fid rid:Nat) (path:List Nat) (ops:Array Oper) (S:St) (a:Act) (K:Exit→St→Option ρ) (r:ρ) (m:Nat) (ν:Nat→Value) (w:World),path.length+1=L →
  Kc E call fid path true ops.toList S (K .normal)=some r→Sim ν S a w→m≤S.h.length→(Code.region rid ops true).wpIn fen 0 E.P (ZS m ν S.h w K r) a w
def drawn:Code→Bool
 |.region _ _ d=>d
 |.seq a b=>drawn a||drawn b
 |.cond _ a b=>drawn a||drawn b
 |.block _ b=>drawn b
 |.scope b=>drawn b
 |_=>false
def noGoto (Q:Exit→Act→World→Prop):Exit→Act→World→Prop
 |.goto _,_,_=>False
 |e,a,w=>Q e a w
section
variable {F:Fence} {n:Nat} {P:Program} {Q:Exit→Act→World→Prop} {a:Act} {w:World}
def mr {b:Frame} {k:List Item} {cs:List Frame} {c:Code}:step P (lone (b.atR a (.code (.scope c)::k)) cs w)=.next (lone (b.atR a (.code c::.inScope c::k)) cs w) :=
 step_lone_go (by simp[stepG,stepG.exec,Frame.atR])
def QO {b:Frame} {k:List Item} {cs:List Frame} {c:Code}:step P (lone (b.atR a (.inScope c::k)) cs w)=.next (lone (b.atR a k) cs w) :=
 step_lone_go (by simp[stepG,stepG.exec,Frame.atR])
def abE {c:Code} (h:c.wpIn F n P (noGoto Q) a w):(Code.scope c).wpIn F n P Q a w:=by
 intro b k cs hro hb hr;have h0:(lone (b.atR a (.code (.scope c)::k)) cs w).fenced P F:=fenced_calm hb hr rfl;obtain⟨e,a₁,w₁,hq,harr⟩:=h b (.inScope c::k) cs hro hb hr
 cases e with
 |normal=>exact⟨.normal,a₁,w₁,hq,.head h0 mr (StepsIn.trans harr (.one (fenced_calm hb hr rfl) QO))⟩
 |exit id =>
  have hx:exitTo id (.inScope c::k)=exitTo id k:=by simp[exitTo]
  exact⟨.exit id,a₁,w₁,hq,fun k' hk=>.head h0 mr (harr.1 k' (by rw[hx]; exact hk)),
   fun hr' hk=>let ⟨k₁,h1,h2⟩:=harr.2 hr' (by rw[hx]; exact hk); ⟨k₁,h1,.head h0 mr h2⟩⟩
 |goto l=>exact hq.elim
 |ret=>exact⟨_,a₁,w₁,hq,.of_steps (.one h0 mr) harr⟩
 |panic ch=>exact⟨_,a₁,w₁,hq,.of_steps (.one h0 mr) harr⟩
 |outgrown=>exact⟨_,a₁,w₁,hq,.of_steps (.one h0 mr) harr⟩
end
def sL (E:Env ρ) (path:List Nat) (fid bid:Nat):LI→Prop
 |.lp b=>∀(m:Nat) (S:St) (K:Exit→St→Option ρ) (r:ρ) (ν:Nat→Value) (a:Act) (w:World),E.loops path fid bid m S K=some r→Sim ν S a w→m≤S.h.length→(Code.loop b).wpIn fen 0 E.P (ZS m ν S.h w K r) a w
 |.rf g ps x y=>∀(m:Nat) (S:St) (K:Exit→St→Option ρ) (r:ρ) (ν:Nat→Value) (a:Act) (w:World),E.ranges path fid bid m (ev S.t g) S K=some r→Sim ν S a w→m≤S.h.length→(Code.rangeFunc g ps x y).wpIn fen 0 E.P (ZS m ν S.h w K r) a w
def Hd {E:Env ρ} {call:List Nat→Bool→Nat→List AV→List Blk→(AV→List Blk→Option ρ)→Option ρ} {L:Nat} (hE:md E L call) {fid:Nat} {path:List Nat} (hp:path.length+2=L) {m:Nat} {r:ρ}:∀(c:Code) (bid:Nat) (S:St) (K:Exit→St→Option ρ) (ν:Nat→Value) (a:Act) (w:World),
 (drawn c=true→vf E L call)→(∀x∈Ý bid c,sL E path fid x.1 x.2)→goC E call fid path m bid c S K=some r→Sim ν S a w→m≤S.h.length→c.wpIn fen 0 E.P (ZS m ν S.h w K r) a w:=by
 intro c
 induction c with
 |skip=>exact fun bid S K ν a w _ _ e H hm=>wpIn_skip ⟨ν,S,H,Ev.refl _ _ _ _,hm,Dd.refl _ _,e⟩
 |label l=>exact fun bid S K ν a w _ _ e H hm=>wpIn_label ⟨ν,S,H,Ev.refl _ _ _ _,hm,Dd.refl _ _,e⟩
 |exit id=>exact fun bid S K ν a w _ _ e H hm=>wpIn_exit ⟨ν,S,H,Ev.refl _ _ _ _,hm,Dd.refl _ _,e⟩
 |ret=>exact fun bid S K ν a w _ _ e H hm=>wpIn_ret ⟨ν,S,H,Ev.refl _ _ _ _,hm,Dd.refl _ _,e⟩
 |region rid ops draw =>
  intro bid S K ν a w hD _ e H hm;simp only[goC,aeV] at e
  cases draw with
  |false=>exact X3 hE (by simpa using hp) e H hm
  |true=>exact hD rfl fid rid _ ops S a K r m ν w (by simpa using hp) e H hm
 |seq x y ihx ihy =>
  intro bid S K ν a w hD hL e H hm;simp only[goC] at e
  cases hj:E.joins path fid (MN y) m with
  |none =>
   rw[hj] at e;simp only at e;refine wpIn_seq (wpIn_mono (ihx bid S _ ν a w (fun h=>hD (by simp[drawn,h])) (fun z hz=>hL z (dD _ hz)) e H hm) fun e' a' w' ha=>?_);obtain⟨ν',S',h1,h2,h3,h4,h5⟩:=ha
   cases e' with
   |normal =>
    exact wpIn_mono (ihy bid S' K ν' a' w' (fun h=>hD (by simp[drawn,h])) (fun z hz=>hL z (dC _ hz)) h5 h1 h3) fun e'' a'' w'' ha=>ha.trans h2 h4 (cG _)
   |exit id=>exact⟨ν',S',h1,h2,h3,h4,h5⟩
   |goto l=>exact⟨ν',S',h1,h2,h3,h4,h5⟩
   |ret=>exact⟨ν',S',h1,h2,h3,h4,h5⟩
   |panic ch=>exact⟨ν',S',h1,h2,h3,h4,h5⟩
   |outgrown=>exact⟨ν',S',h1,h2,h3,h4,h5⟩
  |some J =>
   rw[hj] at e;simp only at e;obtain⟨N,hN,hJ⟩:=hE.joins _ _ _ _ _ hj;rw[hJ] at e;refine wpIn_seq (wpIn_mono (ihx bid S _ ν a w (fun h=>hD (by simp[drawn,h])) (fun z hz=>hL z (dD _ hz)) e H hm) fun e' a' w' ha=>?_);obtain⟨ν',S',h1,h2,h3,h4,h5⟩:=ha
   cases e' with
   |normal =>
    simp only at h5
    split at h5<;>try (cases h5; done)
    rename_i S'' hn;obtain⟨ν'',g1,g2,g3,g4⟩:=hN S' S'' ν' a' w' hn h1 h3;exact wpIn_mono (ihy bid S'' K ν'' a' w' (fun h=>hD (by simp[drawn,h])) (fun z hz=>hL z (dC _ hz)) h5 g1 g3) fun e'' a'' w'' ha=>ha.trans (h2.trans g2 (cG _)) (h4.trans g4 (cG _)) (cG _)
   |exit id=>exact⟨ν',S',h1,h2,h3,h4,h5⟩
   |goto l=>exact⟨ν',S',h1,h2,h3,h4,h5⟩
   |ret=>exact⟨ν',S',h1,h2,h3,h4,h5⟩
   |panic ch=>exact⟨ν',S',h1,h2,h3,h4,h5⟩
   |outgrown=>exact⟨ν',S',h1,h2,h3,h4,h5⟩
 |cond c x y ihx ihy =>
  intro bid S K ν a w hD hL e H hm;simp only[goC] at e
  split at e<;>try (cases e; done)
  rename_i b hb;have hv:=Ņ H c;rw[hb] at hv;have hv:a.eval c=.bool b:=hv
  split at e
  ·exact wpIn_cond_true hv (ihx bid S K ν a w (fun h=>hD (by simp[drawn,h])) (fun z hz=>hL z (dD _ hz)) e H hm)
  ·exact wpIn_cond_false hv (ihy bid S K ν a w (fun h=>hD (by simp[drawn,h])) (fun z hz=>hL z (dC _ hz)) e H hm)
 |block id b ih =>
  intro bid S K ν a w hD hL e H hm;simp only[goC] at e;refine wpIn_block (wpIn_mono (ih id S _ ν a w (fun h=>hD (by simpa[drawn] using h)) hL e H hm) fun e' a' w' ha=>?_);obtain⟨ν',S',h1,h2,h3,h4,h5⟩:=ha
  cases e' with
  |exit j =>
   simp only[Exit.inBlock];simp only at h5
   split at h5
   ·rename_i hj;rw[if_pos (eq_of_beq hj)];exact⟨ν',S',h1,h2,h3,h4,h5⟩
   ·rename_i hj
    have:¬j=id:=by simpa using hj
    rw[if_neg this];exact⟨ν',S',h1,h2,h3,h4,h5⟩
  |normal=>exact⟨ν',S',h1,h2,h3,h4,h5⟩
  |goto l=>exact⟨ν',S',h1,h2,h3,h4,h5⟩
  |ret=>exact⟨ν',S',h1,h2,h3,h4,h5⟩
  |panic ch=>exact⟨ν',S',h1,h2,h3,h4,h5⟩
  |outgrown=>exact⟨ν',S',h1,h2,h3,h4,h5⟩
 |loop b ih =>
  intro bid S K ν a w hD hL e H hm;simp only[goC] at e;exact hL (bid,.lp b) (by simp[Ý]) m S K r ν a w e H hm
 |rangeFunc g ps x y ihx ihy =>
  intro bid S K ν a w hD hL e H hm;simp only[goC] at e;exact hL (bid,.rf g ps x y) (by simp[Ý]) m S K r ν a w e H hm
 |scope b ih =>
  intro bid S K ν a w hD hL e H hm;simp only[goC] at e;refine abE (wpIn_mono (ih bid S _ ν a w (fun h=>hD (by simpa[drawn] using h)) hL e H hm) fun e' a' w' ha=>?_);obtain⟨ν',S',h1,h2,h3,h4,h5⟩:=ha
  cases e' with
  |goto l=>cases h5
  |normal=>exact⟨ν',S',h1,h2,h3,h4,h5⟩
  |exit id=>exact⟨ν',S',h1,h2,h3,h4,h5⟩
  |ret=>exact⟨ν',S',h1,h2,h3,h4,h5⟩
  |panic ch=>exact⟨ν',S',h1,h2,h3,h4,h5⟩
  |outgrown=>exact⟨ν',S',h1,h2,h3,h4,h5⟩
 |_=>intro bid S K ν a w hD hL e H hm; cases e
def uL {E:Env ρ} {call:List Nat→Bool→Nat→List AV→List Blk→(AV→List Blk→Option ρ)→Option ρ} {L:Nat} (hE:md E L call) (hD:vf E L call) {fid:Nat} {path:List Nat} (hp:path.length+2=L) {m:Nat} {r:ρ} (c:Code) (bid:Nat) (S:St) (K:Exit→St→Option ρ) (ν:Nat→Value) (a:Act) (w:World)
 (hL:∀x∈Ý bid c,sL E path fid x.1 x.2) (e:goC E call fid path m bid c S K=some r) (H:Sim ν S a w) (hm:m≤S.h.length):c.wpIn fen 0 E.P (ZS m ν S.h w K r) a w :=
 Hd hE hp c bid S K ν a w (fun _=>hD) hL e H hm
end
end Go.Am
end

noncomputable section
namespace Go.Am
variable [Ghost]
section
variable {ρ:Type} {ν ν':Nat→Value} {h h':List Blk} {w w':World} {P:Program}
def agh:Prop:=∀(T:Tpl) (pin:Nat) (cs vs:List Ty) (S:St) (p:Val (tyL cs)) (v:Val (tyL vs)) (ν:Nat→Value) (a:Act) (w:World),AR T pin cs vs S=some (p,v)→Sim ν S a w →
 ∃ν',Sim ν' (ü T cs vs p v) a w∧Ev pin ν S.h w ν' (ü T cs vs p v).h w∧pin≤(ü T cs vs p v).h.length∧Dd pin S.h (ü T cs vs p v).h
def Qt:∀(l:List (Exit×Tpl×List Ty)) (e:Exit) (i j:Nat),aho l e i=some j→∃x,i≤j∧l[j-i]?=some x∧Jy x.1 e=true
 |[],_,_,_,h=>by cases h
 |x::l,e,i,j,h=>by
  unfold aho at h
  split at h
  ·rename_i hs;cases h;exact⟨x,cG _,by simp,hs⟩
  ·obtain⟨y,h1,h2,h3⟩:=Qt l e (i+1) j h;refine⟨y,by omega,?_,h3⟩;rw[show j-i=(j-(i+1))+1 by omega];simpa using h2
def XW {a b:Exit} (h:Jy a b=true):a=b:=by
 unfold Jy at h
 split at h
 ·rw[eq_of_beq h]
 ·rfl
 ·cases h
def ag6 (hM:agh) {E:Env ρ} {call:List Nat→Bool→Nat→List AV→List Blk→(AV→List Blk→Option ρ)→Option ρ} {N:Nat} (hE:md E N call) (hD:vf E N call) {fid bid:Nat} {path:List Nat} (hpath:path.length+2=N) {b:Code}
 (hin:∀x∈Ý bid b,sL E path fid x.1 x.2) (L:Æ)
 (bF:Val (tyL L.cs)→Val (tyL L.vs)→(Val (tyL L.vs)→Option ρ)→((i:Nat)→Val (tyL (L.zs i))→Option ρ)→Option ρ)
 (law:∀p v kn kx,goC E call fid path L.pin bid b (ü L.head L.cs L.vs p v) (FR L kn kx)=bF p v (kn p) (fun i=>kx i p)) {m:Nat} {S:St} {K:Exit→St→Option ρ} {r:ρ} {ν:Nat→Value} {a:Act} {w:World} (e:XY L bF m S K=some r) (H:Sim ν S a w) (hm:m≤S.h.length):(Code.loop b).wpIn fen 0 E.P (ZS m ν S.h w K r) a w:=by
 unfold XY at e
 split at e<;>try (cases e; done)
 rename_i hpin;have hpin:m≤L.pin:=eZ hpin
 split at e<;>try (cases e; done)
 rename_i p v hmt;obtain⟨n,hn⟩:=aci e;obtain⟨ν₁,H1,ev1,hp1,dd1⟩:=hM _ _ _ _ _ _ _ ν a w hmt H;apply wpIn_loop_rounds n
 have key:∀(n:Nat) (p:Val (tyL L.cs)) (v:Val (tyL L.vs)) (ν₁:Nat→Value) (a₁:Act) (w₁:World),agr (fun v kn=>bF p v kn fun i z=>K (L.xk i) (ü (L.tpl i) L.cs (L.zs i) p z)) n v=some r →
  Sim ν₁ (ü L.head L.cs L.vs p v) a₁ w₁→Ev m ν S.h w ν₁ (ü L.head L.cs L.vs p v).h w₁→L.pin≤(ü L.head L.cs L.vs p v).h.length→Dd m S.h (ü L.head L.cs L.vs p v).h →
  Code.roundsIn fen 0 E.P b (ZS m ν S.h w K r) n a₁ w₁:=by
  intro n
  induction n with
  |zero=>intro p v ν₁ a₁ w₁ e; cases e
  |succ n ih =>
   intro p v ν₁ a₁ w₁ e H1 ev1 hp1 dd1;rw[roundsIn_succ];have hl:=law p v (fun p v=>agr (fun v kn=>bF p v kn fun i z=>K (L.xk i) (ü (L.tpl i) L.cs (L.zs i) p z)) n v) (fun i p z=>K (L.xk i) (ü (L.tpl i) L.cs (L.zs i) p z))
   have e':goC E call fid path L.pin bid b (ü L.head L.cs L.vs p v) (FR L (fun p v=>agr (fun v kn=>bF p v kn fun i z=>K (L.xk i) (ü (L.tpl i) L.cs (L.zs i) p z)) n v) (fun i p z=>K (L.xk i) (ü (L.tpl i) L.cs (L.zs i) p z)))=some r:=by
    rw[hl]; exact e
   refine wpIn_mono (uL hE hD hpath b bid _ _ ν₁ a₁ w₁ hin e' H1 hp1) fun x a₂ w₂ ha=>?_;obtain⟨ν₂,S₂,H2,ev2,hp2,dd2,hk⟩:=ha;have ev12:Ev m ν S.h w ν₂ S₂.h w₂:=ev1.trans ev2 hpin;have dd12:Dd m S.h S₂.h:=dd1.trans dd2 hpin
   have out:∀x,x≠.normal→FR L (fun p v=>agr (fun v kn=>bF p v kn fun i z=>K (L.xk i) (ü (L.tpl i) L.cs (L.zs i) p z)) n v) (fun i p z=>K (L.xk i) (ü (L.tpl i) L.cs (L.zs i) p z)) x S₂=some r→ZS m ν S.h w K r x a₂ w₂:=by
    intro x hx hk;unfold FR at hk
    split at hk
    ·exact absurd rfl hx
    ·split at hk<;>try (cases hk; done)
     rename_i i hi
     split at hk<;>try (cases hk; done)
     rename_i p' z hmt;obtain⟨y,_,h1,h2⟩:=Qt _ _ _ _ hi
     have hxk:L.xk i=x:=by
      have:L.exits[i]?=some y:=by simpa using h1
      unfold Æ.xk;rw[this];exact XW h2
     obtain⟨ν₃,H3,ev3,hp3,dd3⟩:=hM _ _ _ _ _ _ _ ν₂ a₂ w₂ hmt H2;have hk:K (L.xk i) (ü (L.tpl i) L.cs (L.zs i) p' z)=some r:=hk;rw[hxk] at hk;exact⟨ν₃,_,H3,ev12.trans ev3 hpin,cY hpin hp3,dd12.trans dd3 hpin,hk⟩
   cases x with
   |normal =>
    simp only[FR] at hk
    split at hk<;>try (cases hk; done)
    rename_i p' v' hmt;obtain⟨ν₃,H3,ev3,hp3,dd3⟩:=hM _ _ _ _ _ _ _ ν₂ a₂ w₂ hmt H2;exact ih p' v' ν₃ a₂ w₂ hk H3 (ev12.trans ev3 hpin) hp3 (dd12.trans dd3 hpin)
   |exit id=>exact out _ (by simp) hk
   |ret=>exact out _ (by simp) hk
   |goto l=>exact out _ (by simp) hk
   |panic ch=>exact out _ (by simp) hk
   |outgrown=>exact out _ (by simp) hk
 exact key n p v ν₁ a w hn H1 (ev1.mono hpin) hp1 (fun j hj hd=>dd1 j (by omega) hd)
end
end Go.Am
end

noncomputable section
namespace Go.Am
variable [Ghost]
section
variable {ν:Nat→Value} {h h':List Blk} {w:World}
def Xe {t:Ty} {d:DV} {x:Val t} (e:Np t d=some x):d=⟨t,x⟩:=by
 unfold Np at e
 split at e<;>try (cases e; done)
 rename_i ht _;obtain⟨ty,val⟩:=d;simp only at ht;subst ht;cases e;rfl
def abJ (u:Ty) (l:List Ty) (t:Ty) (d:DV) (ds:List DV):abK (u::l) t (d::ds)=(match Np t d with
 |some x=>match abK l u ds with
  |some y=>some ((x,y):Val t×Val (tys u l))
  |none=>none
 |none=>none):=rfl
def ad8 (t:Ty) (x:Val t):ab2 t [] x=[⟨t,x⟩]:=rfl
def ab1 (t u:Ty) (l:List Ty) (x:Val t) (y:Val (tys u l)):ab2 t (u::l) ((x,y):Val t×Val (tys u l))=⟨t,x⟩::ab2 u l y:=rfl
def agB (l:List Ty):∀(t:Ty) (ds:List DV) (x:Val (tys t l)),abK l t ds=some x→ab2 t l x=ds:=by
 induction l with
 |nil =>
  intro t ds x e
  match ds,e with
  |[],e=>exact absurd (show(none:Option (Val t))=some x from e) (fun h=>by cases h)
  |[d],e =>
   have e:Np t d=some x:=e;rw[Xe e]; exact ad8 t x
  |_::_::_,e=>exact absurd (show(none:Option (Val t))=some x from e) (fun h=>by cases h)
 |cons u l ih =>
  intro t ds x e
  match ds,e with
  |[],e=>exact absurd (show(none:Option (Val t×Val (tys u l)))=some x from e) (fun h=>by cases h)
  |d::ds,e =>
   rw[abJ] at e
   cases hy:Np t d with
   |none=>rw[hy] at e; exact absurd (show(none:Option (Val t×Val (tys u l)))=some x from e) (fun h=>by cases h)
   |some y =>
    cases hz:abK l u ds with
    |none=>rw[hy,hz] at e; exact absurd (show(none:Option (Val t×Val (tys u l)))=some x from e) (fun h=>by cases h)
    |some z =>
     rw[hy,hz] at e;have e:((y,z):Val t×Val (tys u l))=x:=Option.some.inj e;rw[←e,Xe hy,←ih u ds z hz];exact ab1 t u l y z
def Z5 (l:List Ty) (ds:List DV) (x:Val (tyL l)) (e:aiL l ds=some x):Yc l x=ds:=by
 cases l with
 |nil=>cases ds with
  |nil=>rfl
  |cons=>cases e
 |cons t l=>exact agB l t ds x e
def νb (B:List Bd) (ν:Nat→Value) (i:Nat):Value :=
 match jd B i with
 |some (.at_ id)=>ν id
 |some .new=>.slice none 0 0
 |some .newd=>.agg [Value.slice none 0 0].toArray
 |_=>undef
structure Ext (M M':Mt):Prop where
 bd:∀i id,jd M.bd i=some (.at_ id)→jd M'.bd i=some (.at_ id)
 new:∀i,jd M.bd i=some .new→jd M'.bd i=some .new
 newd:∀i,jd M.bd i=some .newd→jd M'.bd i=some .newd
 cons:M.cons <+: M'.cons
 vars:M.vars <+: M'.vars
 freed:∀i∈M.freed,i∈M'.freed
 len:M'.bd.length=M.bd.length
def Ext.refl (M:Mt):Ext M M:=⟨fun _ _ h=>h,fun _ h=>h,fun _ h=>h,dK,dK,fun _ h=>h,rfl⟩
def Ext.trans {M M' M'':Mt} (h:Ext M M') (k:Ext M' M''):Ext M M'' :=
 ⟨fun i id q=>k.bd i id (h.bd i id q),fun i q=>k.new i (h.new i q),fun i q=>k.newd i (h.newd i q),h.cons.trans k.cons,h.vars.trans k.vars,fun i q=>k.freed i (h.freed i q),k.len.trans h.len⟩
def Ŵ:∀(l:List Bd) (d:Nat) (b:Bd) (i:Nat),jd (Ir l d b) i=if i=d∧d<l.length then some b else jd l i
 |[],d,v,i=>by simp[Ir,jd]
 |x::xs,0,v,0=>by simp[Ir,jd]
 |x::xs,0,v,i+1=>by simp[Ir,jd]
 |x::xs,d+1,v,0=>by simp[Ir,jd]
 |x::xs,d+1,v,i+1=>by simp[Ir,jd,Ŵ xs d v i]
def sl:∀(l:List Bd) (d:Nat) (b:Bd),(Ir l d b).length=l.length
 |[],_,_=>rfl
 |_::_,0,_=>rfl
 |_::xs,d+1,v=>by simp[Ir,sl xs d v]
def yR:∀{l:List Bd} {i:Nat} {b:Bd},jd l i=some b→i<l.length
 |[],_,_,h=>by cases h
 |_::_,0,_,_=>g8 _
 |_::_,i+1,_,h=>Nat.succ_lt_succ (yR (by simpa[jd] using h))
def iL {M M':Mt} {i id:Nat} (e:Nx M i id=some M'):Ext M M'∧jd M'.bd i=some (.at_ id)∧M'.cons=M.cons∧M'.vars=M.vars:=by
 unfold Nx at e
 split at e<;>try (cases e; done)
 ·rename_i ho;cases e;have hlt:=yR ho;refine⟨⟨fun j id' q=>?_,fun j q=>?_,fun j q=>?_,dK,dK,fun _ q=>q,sl _ _ _⟩,by simp[Ŵ,hlt],rfl,rfl⟩
  ·simp only[Ŵ]
   by_cases hj:j=i
   ·subst hj; rw[ho] at q; cases q
   ·simp[hj,q]
  ·simp only[Ŵ]
   by_cases hj:j=i
   ·subst hj; rw[ho] at q; cases q
   ·simp[hj,q]
  ·simp only[Ŵ]
   by_cases hj:j=i
   ·subst hj; rw[ho] at q; cases q
   ·simp[hj,q]
 ·rename_i id' ho
  split at e<;>try (cases e; done)
  rename_i hi;cases e;rw[eq_of_beq hi] at ho;exact⟨Ext.refl _,ho,rfl,rfl⟩
def Iq {M M':Mt} {i:Nat} (e:ZH M i=some M'):Ext M M'∧jd M'.bd i=some .new∧M'.cons=M.cons∧M'.vars=M.vars:=by
 unfold ZH at e
 split at e<;>try (cases e; done)
 rename_i ho;cases e;have hlt:=yR ho;refine⟨⟨fun j id' q=>?_,fun j q=>?_,fun j q=>?_,dK,dK,fun _ q=>q,sl _ _ _⟩,by simp[Ŵ,hlt],rfl,rfl⟩
 ·simp only[Ŵ]
  by_cases hj:j=i
  ·subst hj; rw[ho] at q; cases q
  ·simp[hj,q]
 ·simp only[Ŵ]
  by_cases hj:j=i
  ·subst hj; rw[ho] at q; cases q
  ·simp[hj,q]
 ·simp only[Ŵ]
  by_cases hj:j=i
  ·subst hj; rw[ho] at q; cases q
  ·simp[hj,q]
def FF {M M':Mt} {i:Nat} (e:TV M i=some M'):Ext M M'∧jd M'.bd i=some .newd∧M'.cons=M.cons∧M'.vars=M.vars:=by
 unfold TV at e
 split at e<;>try (cases e; done)
 rename_i ho;cases e;have hlt:=yR ho;refine⟨⟨fun j id' q=>?_,fun j q=>?_,fun j q=>?_,dK,dK,fun _ q=>q,sl _ _ _⟩,by simp[Ŵ,hlt],rfl,rfl⟩
 ·simp only[Ŵ]
  by_cases hj:j=i
  ·subst hj; rw[ho] at q; cases q
  ·simp[hj,q]
 ·simp only[Ŵ]
  by_cases hj:j=i
  ·subst hj; rw[ho] at q; cases q
  ·simp[hj,q]
 ·simp only[Ŵ]
  by_cases hj:j=i
  ·subst hj; rw[ho] at q; cases q
  ·simp[hj,q]
def kin:Blk→Blk→Prop
 |.row t _ false xs,B=>B=.row t 0 false xs
 |.row t g true xs,B=>B=.row t g true xs
 |.map k v es,B=>B=.map k v es
 |.cells _,B=>∃cs',B=.cells cs'
 |.dead,B=>B=.dead
 |.deep k _ xss,B=>B=.deep k 0 xss
 |.acc t xs,B=>B=.acc t xs
structure Fin (ν:Nat→Value) (h:List Blk) (w:World) (M:Mt) (h':List Blk):Prop where
 at_:∀i id,jd M.bd i=some (.at_ id)→kin (lkB h id) (lkB h' i)
 new:∀i,jd M.bd i=some .new→∃t,lkB h' i=.row t 0 false []
 newd:∀i,jd M.bd i=some .newd→∃k,lkB h' i=.deep k 0 []
 out:∀i,(∀id,jd M.bd i≠some (.at_ id))→jd M.bd i≠some .new→jd M.bd i≠some .newd→lkB h' i=.dead
 freed:∀id∈M.freed,∀i,jd M.bd i≠some (.at_ id)
 inj:∀i j id,jd M.bd i=some (.at_ id)→jd M.bd j=some (.at_ id)→i=j
def Fin.live {M:Mt} (F:Fin ν h w M h') {b:Nat} (hb:CW (νb M.bd ν) h' b):∃i id,jd M.bd i=some (.at_ id)∧(lkB h id).live=true∧Ļ (ν id) b:=by
 obtain⟨i,hl,hn⟩:=hb
 cases hB:jd M.bd i with
 |none=>rw[F.out i (by simp[hB]) (by simp[hB]) (by simp[hB])] at hl; cases hl
 |some bd =>
  cases bd with
  |open_=>rw[F.out i (by simp[hB]) (by simp[hB]) (by simp[hB])] at hl; cases hl
  |new=>simp only[νb,hB] at hn; cases hn
  |newd =>
   simp only[νb,hB] at hn;obtain⟨u,hu,hb⟩:=hn;simp at hu;subst hu;cases hb
  |at_ id =>
   refine⟨i,id,hB,?_,by simpa[νb,hB] using hn⟩;have hk:=F.at_ i id hB
   cases hB':lkB h id with
   |dead=>rw[hB'] at hk; rw[show lkB h' i=_ from hk] at hl; cases hl
   |cells=>rfl
   |map=>rfl
   |deep=>rfl
   |acc=>rfl
   |row t g fz xs =>
    cases fz with
    |false=>rfl
    |true=>rw[hB'] at hk; rw[show lkB h' i=_ from hk] at hl; cases hl
def Fin.subL {M:Mt} (F:Fin ν h w M h') (b:Nat) (hb:CW (νb M.bd ν) h' b):CW ν h b:=by
 obtain⟨i,id,_,h2,h3⟩:=F.live hb;exact⟨id,h2,h3⟩
def Fin.sub {M:Mt} (F:Fin ν h w M h') (b:Nat) (hb:Av (νb M.bd ν) h' b):Av ν h b:=hb.imp_left (F.subL b)
def aa9 (H:HR ν h w) {M:Mt} (F:Fin ν h w M h') {t:Ty} {v:AV} {u:Value} {x:Val t} (hf:∀i∈Qq h v,i∈M.freed) (e:Ú t [ÿ h v]=some x) (hv:VR ν h w v u) :
 VR (νb M.bd ν) h' w (acz ⟨t,x⟩) u:=by
 have main:∀(hag:v.isAgg=false) (htu:v.isTup=false),CR w (Av (νb M.bd ν) h') t x [u]:=by
  intro hag htu;have h1:=hv.one hag htu;refine ğ e ⟨C7 H F.sub h1 fun id b hc hl hb=>?_,trivial⟩;rintro(hlive|hgh)
  rotate_left
  ·exact H.ghne id b hl hb hgh
  obtain⟨i,id',h2,h3,h4⟩:=F.live hlive;have hid:id=id':=H.inj id id' b hl h3 hb h4;subst hid;refine F.freed id (hf id ?_) i h2;rcases hc with⟨g,rfl⟩|⟨g,lo,n,rfl⟩|rfl
  ·obtain⟨_,t',g',fz,xs,hl',_⟩:=h1;rw[hl'] at hl
   cases fz with
   |true=>cases hl
   |false=>simp[Qq,hl']
  ·obtain⟨_,t',g',fz,xs,hl',_⟩:=h1;rw[hl'] at hl
   cases fz with
   |true=>cases hl
   |false=>simp[Qq,hl']
  ·simp[Qq]
 have fin:(t≠.unit∧∀a b,t≠.pair a b)→v.isAgg=false∧v.isTup=false:=fun⟨h1,h2⟩=>by
  constructor
  ·cases v<;>try rfl
   cases t<;>first|(exact absurd rfl h1)|(exact absurd rfl (h2 _ _))|(simp[ÿ,Ú,Ε] at e)
  ·cases v<;>try rfl
   cases t<;>first|(exact absurd rfl h1)|(exact absurd rfl (h2 _ _))|(simp[ÿ,Ú,Ε] at e)
 cases t with
 |unit=>trivial
 |pair a b=>trivial
 |bool=>obtain⟨q1,q2⟩:=fin ⟨by simp,by simp⟩; exact Il (main q1 q2)
 |int k=>obtain⟨q1,q2⟩:=fin ⟨by simp,by simp⟩; exact Il (main q1 q2)
 |str=>obtain⟨q1,q2⟩:=fin ⟨by simp,by simp⟩; exact Il (main q1 q2)
 |slice t=>obtain⟨q1,q2⟩:=fin ⟨by simp,by simp⟩; exact Il (main q1 q2)
 |map k v=>obtain⟨q1,q2⟩:=fin ⟨by simp,by simp⟩; exact Il (main q1 q2)
 |ptr t=>obtain⟨q1,q2⟩:=fin ⟨by simp,by simp⟩; exact Il (main q1 q2)
def Ġ {α:Type} {l C:List α} {d:α} (h:(l++[d]) <+: C):C.drop l.length=d::C.drop (l.length+1):=by
 obtain⟨t,rfl⟩:=h;simp[cQ]
def me {B:List Bd} {i id:Nat} (h:jd B i=some (.at_ id)):νb B ν i=ν id:=by simp[νb,h]
def ac5 {B:List Bd} {i:Nat} (h:jd B i=some .new):νb B ν i=.slice none 0 0:=by simp[νb,h]
def ZT {B:List Bd} {i:Nat} (h:jd B i=some .newd):νb B ν i=.agg [Value.slice none 0 0].toArray:=by simp[νb,h]
def jY:∀(ps:List (Nat×Nat)) (vs:List AV) (us:List Value) (M M1:Mt),xQ h ps vs M=some M1→Ext M M1∧M1.cons=M.cons∧M1.vars=M.vars ∧
 ∀Mf,Ext M1 Mf→Fin ν h w Mf h'→ý (VR0 ν h w) vs us→ý (VR0 (νb Mf.bd ν) h' w) (ps.map fun c=>.box c.1 c.2) us
 |[],[],us,M,M1,e=>by
  cases e;exact⟨Ext.refl _,rfl,rfl,fun Mf _ _ hv=>by cases us with|nil=>trivial|cons=>exact hv.elim⟩
 |[],_::_,_,_,_,e=>by cases e
 |_::_,[],_,_,_,e=>by cases e
 |(i,o)::ps,v::vs,us,M,M1,e=>by
  cases v<;>try (simp[xQ] at e; done)
  rename_i id off;simp only[xQ] at e
  split at e<;>try (cases e; done)
  rename_i ho
  split at e<;>try (cases e; done)
  rename_i cs hl
  split at e<;>try (cases e; done)
  rename_i M2 hb;obtain⟨e1,b1,c1,v1⟩:=iL hb;obtain⟨e2,c2,v2,_⟩:=jY ps vs us M2 M1 e;refine⟨e1.trans e2,c2.trans c1,v2.trans v1,fun Mf he F hv=>?_⟩
  cases us with
  |nil=>exact hv.elim
  |cons u us =>
   refine⟨?_,(jY ps vs us M2 M1 e).2.2.2 Mf he F hv.2⟩;obtain⟨cs',b,h1,h2,h3⟩:=hv.1;have hat:=he.bd i id (e2.bd i id b1);have hk:=F.at_ i id hat;rw[hl] at hk;obtain⟨cs2,hk⟩:=hk;exact⟨cs2,b,hk,(me hat).trans h2,by rw[eq_of_beq ho]; exact h3⟩
def rest (Mf M:Mt):It:=⟨Mf.cons.drop M.cons.length,Mf.vars.drop M.vars.length⟩
def sN:∀(ts:List Ty) (vs:List AV) (M M1:Mt),xP ts vs M=some M1→Ext M M1∧∀Mf,Ext M1 Mf→(zM ts (rest Mf M)).2=rest Mf M1 ∧
 ∀us:List Value,Fin ν h w Mf h'→ý (VR0 ν h w) vs us→ý (VR0 (νb Mf.bd ν) h' w) (zM ts (rest Mf M)).1 us
 |[],[],M,M1,e=>by
  cases e;exact⟨Ext.refl _,fun Mf _=>⟨rfl,fun us _ hv=>by cases us with|nil=>trivial|cons=>exact hv.elim⟩⟩
 |[],_::_,_,_,e=>by cases e
 |_::_,[],_,_,e=>by cases e
 |t::ts,v::vs,M,M1,e=>by
  cases v<;>try (simp[xP] at e; done)
  rename_i t' x o;simp only[xP] at e
  split at e<;>try (cases e; done)
  rename_i ho
  split at e<;>try (cases e; done)
  rename_i ht _;have ho:=cR ho;subst ho;obtain⟨e2,k2⟩:=sN ts vs _ M1 e;have e1:Ext M {M with cons:=M.cons++[⟨.ptr t',x⟩]}:=⟨fun _ _ q=>q,fun _ q=>q,fun _ q=>q,dN _ _,dK,fun _ q=>q,rfl⟩;refine⟨e1.trans e2,fun Mf he=>?_⟩;obtain⟨k3,k4⟩:=k2 Mf he;have hd:=Ġ (e2.trans he).cons
  have hr:rest Mf {M with cons:=M.cons++[⟨.ptr t',x⟩]}=⟨Mf.cons.drop (M.cons.length+1),Mf.vars.drop M.vars.length⟩:=by simp[rest]
  rw[hr] at k3 k4;simp only[rest,zM,hd];refine⟨k3,fun us F hv=>?_⟩
  cases us with
  |nil=>exact hv.elim
  |cons u us =>
   refine⟨?_,k4 us F hv.2⟩;obtain⟨b,o,ws,h1,h2,h3,h4,h5⟩:=hv.1;exact⟨b,o,ws,h1,fun h=>h2 (F.sub b h),h3,CR.mono F.sub h4,h5⟩
def KB (H:HR ν h w) {p:Pat} {v:AV} {M M1:Mt} (e:θ h p v M=some M1):Ext M M1∧∀Mf u,Ext M1 Mf→Fin ν h w Mf h'→VR ν h w v u →
 VR (νb Mf.bd ν) h' w (td p ⟨Mf.cons.drop M.cons.length,Mf.vars.drop M.vars.length⟩).1 u ∧
  (td p ⟨Mf.cons.drop M.cons.length,Mf.vars.drop M.vars.length⟩).2=⟨Mf.cons.drop M1.cons.length,Mf.vars.drop M1.vars.length⟩:=by
 cases p with
 |any=>cases e; exact⟨Ext.refl _,fun Mf u _ _ _=>⟨trivial,rfl⟩⟩
 |con t =>
  simp only[θ] at e
  split at e<;>try (cases e; done)
  rename_i x hx;cases e;refine⟨⟨fun _ _ q=>q,fun _ q=>q,fun _ q=>q,dN _ _,dK,fun _ q=>dC _ q,rfl⟩,fun Mf u he F hv=>?_⟩;have hd:=Ġ he.cons;simp only[td,hd];exact⟨aa9 H F (fun i hi=>he.freed i (dD _ hi)) hx hv,by simp⟩
 |var t =>
  simp only[θ] at e
  split at e<;>try (cases e; done)
  rename_i x hx;cases e;refine⟨⟨fun _ _ q=>q,fun _ q=>q,fun _ q=>q,dK,dN _ _,fun _ q=>dC _ q,rfl⟩,fun Mf u he F hv=>?_⟩;have hd:=Ġ he.vars;simp only[td,hd];exact⟨aa9 H F (fun i hi=>he.freed i (dD _ hi)) hx hv,by simp⟩
 |own i =>
  simp only[θ] at e
  split at e<;>try (cases e; done)
  ·rename_i id g
   split at e<;>try (cases e; done)
   rename_i t g' xs hl
   split at e<;>try (cases e; done)
   rename_i hg;obtain⟨e1,b1,c1,v1⟩:=iL e;refine⟨e1,fun Mf u he F hv=>⟨?_,by simp only[td,c1,v1]⟩⟩;have hat:=he.bd i id b1;have hk:=F.at_ i id hat;rw[hl] at hk;obtain⟨ho,t2,g2,fz2,xs2,hl2,_,hq⟩:=hv;rw[hl] at hl2; cases hl2;exact⟨ho,t,0,false,xs,hk,cG _,fun _=>(hq (eq_of_beq hg)).trans (me hat).symm⟩
  ·obtain⟨e1,b1,c1,v1⟩:=Iq e;refine⟨e1,fun Mf u he F hv=>⟨?_,by simp only[td,c1,v1]⟩⟩;have hnw:=he.new i b1;obtain⟨t,hk⟩:=F.new i hnw;have hu:u=.slice none 0 0:=hv;exact⟨by rw[hu]; rfl,t,0,false,[],hk,cG _,fun _=>hu.trans (ac5 hnw).symm⟩
 |dp i =>
  simp only[θ] at e
  split at e<;>try (cases e; done)
  ·rename_i id g
   split at e<;>try (cases e; done)
   rename_i k g' xss hl
   split at e<;>try (cases e; done)
   rename_i hg;obtain⟨e1,b1,c1,v1⟩:=iL e;refine⟨e1,fun Mf u he F hv=>⟨?_,by simp only[td,c1,v1]⟩⟩;have hat:=he.bd i id b1;have hk:=F.at_ i id hat;rw[hl] at hk;obtain⟨ho,k2,g2,xss2,hl2,_,hq⟩:=hv;rw[hl] at hl2; cases hl2;exact⟨ho,k,0,xss,hk,cG _,fun _=>by rw[me hat]; exact hq (eq_of_beq hg)⟩
  ·obtain⟨e1,b1,c1,v1⟩:=FF e;refine⟨e1,fun Mf u he F hv=>⟨?_,by simp only[td,c1,v1]⟩⟩;have hnw:=he.newd i b1;obtain⟨k,hk⟩:=F.newd i hnw;have hu:u=.slice none 0 0:=hv;exact⟨by rw[hu]; rfl,k,0,[],hk,cG _,fun _=>⟨[],by rw[ZT hnw,hu]⟩⟩
 |omp i =>
  simp only[θ] at e
  split at e<;>try (cases e; done)
  rename_i id
  split at e<;>try (cases e; done)
  rename_i k v' es hl;obtain⟨e1,b1,c1,v1⟩:=iL e;refine⟨e1,fun Mf u he F hv=>⟨?_,by simp only[td,c1,v1]⟩⟩;have hat:=he.bd i id b1;have hk:=F.at_ i id hat;rw[hl] at hk;obtain⟨ho,k2,v2,es2,hl2,hq⟩:=hv;exact⟨ho,k,v',es,hk,hq.trans (me hat).symm⟩
 |box i off =>
  simp only[θ] at e
  split at e<;>try (cases e; done)
  rename_i id off'
  split at e<;>try (cases e; done)
  rename_i hoff
  split at e<;>try (cases e; done)
  rename_i cs hl;obtain⟨e1,b1,c1,v1⟩:=iL e;refine⟨e1,fun Mf u he F hv=>⟨?_,by simp only[td,c1,v1]⟩⟩;have hat:=he.bd i id b1;have hk:=F.at_ i id hat;rw[hl] at hk;obtain⟨cs2,hk⟩:=hk;obtain⟨cs',b,h1,h2,h3⟩:=hv;exact⟨cs2,b,hk,(me hat).trans h2,by rw[eq_of_beq hoff]; exact h3⟩
 |nils =>
  simp only[θ] at e
  split at e<;>try (cases e; done)
  cases e;exact⟨Ext.refl _,fun Mf u _ _ hv=>⟨hv,rfl⟩⟩
 |nilp =>
  simp only[θ] at e
  split at e<;>try (cases e; done)
  cases e;exact⟨Ext.refl _,fun Mf u _ _ hv=>⟨hv,rfl⟩⟩
 |nilfn =>
  simp only[θ] at e
  split at e<;>try (cases e; done)
  cases e;exact⟨Ext.refl _,fun Mf u _ _ hv=>⟨hv,rfl⟩⟩
 |yld =>
  simp only[θ] at e
  split at e<;>try (cases e; done)
  cases e;exact⟨Ext.refl _,fun Mf u _ _ hv=>⟨hv,rfl⟩⟩
 |fn f caps =>
  simp only[θ] at e
  split at e<;>try (cases e; done)
  rename_i f' vs
  split at e<;>try (cases e; done)
  rename_i hf;obtain⟨e1,c1,v1,_⟩:=jY (ν:=ν) (w:=w) (h':=h') caps vs [] M M1 e;refine⟨e1,fun Mf u he F hv=>⟨?_,by simp only[td,c1,v1]⟩⟩;obtain⟨fs,cs,rfl,q1,q2⟩:=hv;have:=(jY (ν:=ν) (w:=w) (h':=h') caps vs cs.toList M M1 e).2.2.2 Mf he F q2;exact⟨fs,cs,by rw[eq_of_beq hf],by rw[q1.nil_left]; trivial,this⟩
 |fnd f ts =>
  simp only[θ] at e
  split at e<;>try (cases e; done)
  rename_i f' vs
  split at e<;>try (cases e; done)
  rename_i hf;obtain⟨e1,k⟩:=sN (ν:=ν) (h:=h) (w:=w) (h':=h') ts vs M M1 e;refine⟨e1,fun Mf u he F hv=>?_⟩;obtain⟨k1,k2⟩:=k Mf he;obtain⟨fs,cs,rfl,q1,q2⟩:=hv;exact⟨⟨fs,cs,by rw[eq_of_beq hf],by rw[q1.nil_left]; trivial,k2 cs.toList F q2⟩,k1⟩
def BL {Mf M M1:Mt} (h1:M1.cons=M.cons) (h2:M1.vars=M.vars):rest Mf M=rest Mf M1:=by simp only[rest,h1,h2]
def vq {p:Pat} {v:AV} {M M1:Mt} (e:θ h p v M=some M1):Ext M M1∧∀Mf,Ext M1 Mf→(td p (rest Mf M)).2=rest Mf M1:=by
 cases p with
 |any=>cases e; exact⟨Ext.refl _,fun Mf _=>rfl⟩
 |con t =>
  simp only[θ] at e
  split at e<;>try (cases e; done)
  rename_i x hx;cases e;refine⟨⟨fun _ _ q=>q,fun _ q=>q,fun _ q=>q,dN _ _,dK,fun _ q=>dC _ q,rfl⟩,fun Mf he=>?_⟩;have hd:=Ġ he.cons;simp only[rest,td,hd]; simp
 |var t =>
  simp only[θ] at e
  split at e<;>try (cases e; done)
  rename_i x hx;cases e;refine⟨⟨fun _ _ q=>q,fun _ q=>q,fun _ q=>q,dK,dN _ _,fun _ q=>dC _ q,rfl⟩,fun Mf he=>?_⟩;have hd:=Ġ he.vars;simp only[rest,td,hd]; simp
 |own i =>
  simp only[θ] at e
  split at e<;>try (cases e; done)
  ·split at e<;>try (cases e; done)
   split at e<;>try (cases e; done)
   obtain⟨e1,b1,c1,v1⟩:=iL e;exact⟨e1,fun Mf he=>BL c1 v1⟩
  ·obtain⟨e1,b1,c1,v1⟩:=Iq e;exact⟨e1,fun Mf he=>BL c1 v1⟩
 |dp i =>
  simp only[θ] at e
  split at e<;>try (cases e; done)
  ·split at e<;>try (cases e; done)
   split at e<;>try (cases e; done)
   obtain⟨e1,b1,c1,v1⟩:=iL e;exact⟨e1,fun Mf he=>BL c1 v1⟩
  ·obtain⟨e1,b1,c1,v1⟩:=FF e;exact⟨e1,fun Mf he=>BL c1 v1⟩
 |omp i =>
  simp only[θ] at e
  split at e<;>try (cases e; done)
  split at e<;>try (cases e; done)
  obtain⟨e1,b1,c1,v1⟩:=iL e;exact⟨e1,fun Mf he=>BL c1 v1⟩
 |box i off =>
  simp only[θ] at e
  split at e<;>try (cases e; done)
  split at e<;>try (cases e; done)
  split at e<;>try (cases e; done)
  obtain⟨e1,b1,c1,v1⟩:=iL e;exact⟨e1,fun Mf he=>BL c1 v1⟩
 |nils =>
  simp only[θ] at e
  split at e<;>try (cases e; done)
  cases e; exact⟨Ext.refl _,fun Mf _=>rfl⟩
 |nilp =>
  simp only[θ] at e
  split at e<;>try (cases e; done)
  cases e; exact⟨Ext.refl _,fun Mf _=>rfl⟩
 |nilfn =>
  simp only[θ] at e
  split at e<;>try (cases e; done)
  cases e; exact⟨Ext.refl _,fun Mf _=>rfl⟩
 |yld =>
  simp only[θ] at e
  split at e<;>try (cases e; done)
  cases e; exact⟨Ext.refl _,fun Mf _=>rfl⟩
 |fn f caps =>
  simp only[θ] at e
  split at e<;>try (cases e; done)
  rename_i f' vs
  split at e<;>try (cases e; done)
  obtain⟨e1,c1,v1,_⟩:=jY (ν:=fun _=>undef) (w:=default) (h':=[]) caps vs [] M M1 e;exact⟨e1,fun Mf he=>BL c1 v1⟩
 |fnd f ts =>
  simp only[θ] at e
  split at e<;>try (cases e; done)
  rename_i f' vs
  split at e<;>try (cases e; done)
  obtain⟨e1,k⟩:=sN (ν:=fun _=>undef) (h:=[]) (w:=default) (h':=[]) ts vs M M1 e;exact⟨e1,fun Mf he=>(k Mf he).1⟩
def uK (p:Pat) (ps:List Pat) (I:It):Hb (p::ps) I=((td p I).1::(Hb ps (td p I).2).1,(Hb ps (td p I).2).2):=rfl
def BQ:∀{ps:List Pat} {vs:List AV} {M M1:Mt},PX h ps vs M=some M1→Ext M M1∧∀Mf,Ext M1 Mf→(Hb ps (rest Mf M)).2=rest Mf M1
 |[],vs,M,M1,e=>by cases e; exact⟨Ext.refl _,fun Mf _=>rfl⟩
 |p::ps,vs,M,M1,e=>by
  simp only[PX] at e
  split at e<;>try (cases e; done)
  rename_i M2 h1;obtain⟨e1,t1⟩:=vq h1;obtain⟨e2,t2⟩:=BQ e;exact⟨e1.trans e2,fun Mf he=>by rw[uK,t1 Mf (e2.trans he)]; exact t2 Mf he⟩
def Vg (H:HR ν h w):∀{ps:List Pat} {vs:List AV} {M M1:Mt},PX h ps vs M=some M1→∀Mf,Ext M1 Mf→Fin ν h w Mf h'→∀f:Nat→Value,(∀k,VR ν h w (lk vs k) (f k)) →
 ∀k,VR (νb Mf.bd ν) h' w (lk (Hb ps (rest Mf M)).1 k) (f k)
 |[],vs,M,M1,e,Mf,_,_,f,_,k=>trivial
 |p::ps,vs,M,M1,e,Mf,he,F,f,hf,k=>by
  simp only[PX] at e
  split at e<;>try (cases e; done)
  rename_i M2 h1;obtain⟨e1,t1⟩:=vq h1;obtain⟨e2,t2⟩:=BQ e;rw[uK,t1 Mf (e2.trans he)]
  cases k with
  |zero=>exact((KB H h1).2 Mf (f 0) (e2.trans he) F (hf 0)).1
  |succ k =>
   have ht:∀k,lk vs.tail k=lk vs (k+1):=fun k=>by cases vs<;>rfl
   exact Vg H e Mf he F (fun k=>f (k+1)) (fun k=>by rw[ht]; exact hf (k+1)) k
def pV:∀{ps:List Pat} {vs:List AV} {M M1:Mt},pI h ps vs M=some M1→Ext M M1∧∀Mf,Ext M1 Mf→(Hb ps (rest Mf M)).2=rest Mf M1
 |[],[],M,M1,e=>by cases e; exact⟨Ext.refl _,fun Mf _=>rfl⟩
 |[],_::_,M,M1,e=>by cases e
 |_::_,[],M,M1,e=>by cases e
 |p::ps,v::vs,M,M1,e=>by
  simp only[pI] at e
  split at e<;>try (cases e; done)
  rename_i M2 h1;obtain⟨e1,t1⟩:=vq h1;obtain⟨e2,t2⟩:=pV e;exact⟨e1.trans e2,fun Mf he=>by rw[uK,t1 Mf (e2.trans he)]; exact t2 Mf he⟩
def acn (p:Pat) (I:It):(td p I).1.isAgg=false∧(td p I).1.isTup=false:=by
 have henc:∀d:DV,(acz d).isAgg=false∧(acz d).isTup=false:=fun d=>by
  obtain⟨t,x⟩:=d
  cases t<;>exact⟨rfl,rfl⟩
 cases p<;>simp only[td]<;>try exact⟨rfl,rfl⟩
 ·split<;>first|exact henc _|exact⟨rfl,rfl⟩
 ·split<;>first|exact henc _|exact⟨rfl,rfl⟩
def Dn (H:HR ν h w):∀{ps:List Pat} {vs:List AV} {us:List Value} {M M1:Mt},pI h ps vs M=some M1→∀Mf,Ext M1 Mf→Fin ν h w Mf h'→ý (VRc ν h w) vs us →
 ý (VRc (νb Mf.bd ν) h' w) (Hb ps (rest Mf M)).1 us
 |[],[],us,M,M1,e,Mf,_,_,hv=>by cases us with|nil=>trivial|cons=>exact hv.elim
 |[],_::_,_,M,M1,e,_,_,_,_=>by cases e
 |_::_,[],_,M,M1,e,_,_,_,_=>by cases e
 |p::ps,v::vs,us,M,M1,e,Mf,he,F,hv=>by
  simp only[pI] at e
  split at e<;>try (cases e; done)
  rename_i M2 h1;obtain⟨e1,t1⟩:=vq h1;obtain⟨e2,t2⟩:=pV e;rw[uK,t1 Mf (e2.trans he)]
  cases us with
  |nil=>exact hv.elim
  |cons u us =>
   have h2:=((KB H h1).2 Mf u (e2.trans he) F hv.1.1.up).1;have hfl:=acn p (rest Mf M);exact⟨⟨h2.one hfl.1 hfl.2,hv.1.2⟩,Dn H e Mf he F hv.2⟩
def zW (M:Mt) (d:DV):Ext M {M with cons:=M.cons++[d]}:=⟨fun _ _ q=>q,fun _ q=>q,fun _ q=>q,dN _ _,dK,fun _ q=>q,rfl⟩
def zV (M:Mt) (d:DV):Ext M {M with vars:=M.vars++[d]}:=⟨fun _ _ q=>q,fun _ q=>q,fun _ q=>q,dK,dN _ _,fun _ q=>q,rfl⟩
def KA {p:jW} {i:Nat} {M M1:Mt} (e:ji h p i M=some M1):Ext M M1∧∀Mf,Ext M1 Mf→(tc p (rest Mf M)).2=rest Mf M1 ∧
 ((∃id,jd M.bd i=some (.at_ id)∧kin (lkB h id) (tc p (rest Mf M)).1)∨(jd M.bd i=some .new∧∃t,(tc p (rest Mf M)).1=.row t 0 false [])∨(jd M.bd i=some .newd∧∃k,(tc p (rest Mf M)).1=.deep k 0 [])):=by
 cases p with
 |dead =>
  simp only[ji] at e
  split at e<;>try (cases e; done)
  rename_i id hb
  split at e<;>try (cases e; done)
  rename_i hl;cases e;exact⟨Ext.refl _,fun Mf _=>⟨rfl,.inl ⟨id,hb,by rw[hl]; rfl⟩⟩⟩
 |cells ps =>
  simp only[ji] at e
  split at e<;>try (cases e; done)
  rename_i id hb
  split at e<;>try (cases e; done)
  rename_i cs hl;obtain⟨e1,t1⟩:=pV e;exact⟨e1,fun Mf he=>⟨t1 Mf he,.inl ⟨id,hb,by rw[hl]; exact⟨_,rfl⟩⟩⟩⟩
 |rowc t =>
  simp only[ji] at e
  split at e<;>try (cases e; done)
  ·rename_i id hb
   split at e<;>try (cases e; done)
   rename_i t' g xs hl
   split at e<;>try (cases e; done)
   cases e;refine⟨zW _ _,fun Mf he=>?_⟩;have hd:=Ġ he.cons;simp only[rest,tc,hd];exact⟨by simp,.inl ⟨id,hb,by rw[hl]; rfl⟩⟩
  ·rename_i hb;cases e;refine⟨zW _ _,fun Mf he=>?_⟩;have hd:=Ġ he.cons;simp only[rest,tc,hd];exact⟨by simp,.inr (.inl ⟨hb,t,rfl⟩)⟩
 |rowf t g =>
  simp only[ji] at e
  split at e<;>try (cases e; done)
  rename_i id hb
  split at e<;>try (cases e; done)
  rename_i t' g' xs hl
  split at e<;>try (cases e; done)
  split at e<;>try (cases e; done)
  rename_i hg _;subst hg;cases e;refine⟨zW _ _,fun Mf he=>?_⟩;have hd:=Ġ he.cons;simp only[rest,tc,hd];exact⟨by simp,.inl ⟨id,hb,by rw[hl]; rfl⟩⟩
 |rowv t =>
  simp only[ji] at e
  split at e<;>try (cases e; done)
  ·rename_i id hb
   split at e<;>try (cases e; done)
   rename_i t' g xs hl
   split at e<;>try (cases e; done)
   cases e;refine⟨zV _ _,fun Mf he=>?_⟩;have hd:=Ġ he.vars;simp only[rest,tc,hd];exact⟨by simp,.inl ⟨id,hb,by rw[hl]; rfl⟩⟩
  ·rename_i hb;cases e;refine⟨zV _ _,fun Mf he=>?_⟩;have hd:=Ġ he.vars;simp only[rest,tc,hd];exact⟨by simp,.inr (.inl ⟨hb,t,rfl⟩)⟩
 |mapc k v =>
  simp only[ji] at e
  split at e<;>try (cases e; done)
  rename_i id hb
  split at e<;>try (cases e; done)
  rename_i k' v' es hl
  split at e<;>try (cases e; done)
  cases e;refine⟨zW _ _,fun Mf he=>?_⟩;have hd:=Ġ he.cons;simp only[rest,tc,hd];exact⟨by simp,.inl ⟨id,hb,by rw[hl]; rfl⟩⟩
 |mapv k v =>
  simp only[ji] at e
  split at e<;>try (cases e; done)
  rename_i id hb
  split at e<;>try (cases e; done)
  rename_i k' v' es hl
  split at e<;>try (cases e; done)
  cases e;refine⟨zV _ _,fun Mf he=>?_⟩;have hd:=Ġ he.vars;simp only[rest,tc,hd];exact⟨by simp,.inl ⟨id,hb,by rw[hl]; rfl⟩⟩
 |deepc k =>
  simp only[ji] at e
  split at e<;>try (cases e; done)
  ·rename_i id hb
   split at e<;>try (cases e; done)
   rename_i k' g xss hl
   split at e<;>try (cases e; done)
   cases e;refine⟨zW _ _,fun Mf he=>?_⟩;have hd:=Ġ he.cons;simp only[rest,tc,hd];exact⟨by simp,.inl ⟨id,hb,by rw[hl]; rfl⟩⟩
  ·rename_i hb;cases e;refine⟨zW _ _,fun Mf he=>?_⟩;have hd:=Ġ he.cons;simp only[rest,tc,hd];exact⟨by simp,.inr (.inr ⟨hb,k,rfl⟩)⟩
 |deepv k =>
  simp only[ji] at e
  split at e<;>try (cases e; done)
  ·rename_i id hb
   split at e<;>try (cases e; done)
   rename_i k' g xss hl
   split at e<;>try (cases e; done)
   cases e;refine⟨zV _ _,fun Mf he=>?_⟩;have hd:=Ġ he.vars;simp only[rest,tc,hd];exact⟨by simp,.inl ⟨id,hb,by rw[hl]; rfl⟩⟩
  ·rename_i hb;cases e;refine⟨zV _ _,fun Mf he=>?_⟩;have hd:=Ġ he.vars;simp only[rest,tc,hd];exact⟨by simp,.inr (.inr ⟨hb,k,rfl⟩)⟩
 |acc t =>
  simp only[ji] at e
  split at e<;>try (cases e; done)
  rename_i id hb
  split at e<;>try (cases e; done)
  rename_i t' xs hl
  split at e<;>try (cases e; done)
  cases e;refine⟨zV _ _,fun Mf he=>?_⟩;have hd:=Ġ he.vars;simp only[rest,tc,hd];exact⟨by simp,.inl ⟨id,hb,by rw[hl]; rfl⟩⟩
def aei (H:HR ν h w) {p:jW} {i id:Nat} {M M1:Mt} {cs:List AV} (e:ji h p i M=some M1) (hb:jd M.bd i=some (.at_ id)) (hl:lkB h id=.cells cs) {Mf:Mt} (he:Ext M1 Mf) (F:Fin ν h w Mf h') {us:List Value} (hv:ý (VRc ν h w) cs us) :
 ∃cs',(tc p (rest Mf M)).1=.cells cs'∧ý (VRc (νb Mf.bd ν) h' w) cs' us:=by
 cases p with
 |cells ps =>
  simp only[ji,hb,hl] at e;exact⟨_,rfl,Dn H e Mf he F hv⟩
 |dead=>simp[ji,hb,hl] at e
 |rowc t=>simp[ji,hb,hl] at e
 |rowf t g=>simp[ji,hb,hl] at e
 |rowv t=>simp[ji,hb,hl] at e
 |mapc k v=>simp[ji,hb,hl] at e
 |mapv k v=>simp[ji,hb,hl] at e
 |deepc k=>simp[ji,hb,hl] at e
 |deepv k=>simp[ji,hb,hl] at e
 |acc t=>simp[ji,hb,hl] at e
def Hc (p:jW) (ps:List jW) (I:It):CH (p::ps) I=((tc p I).1::(CH ps (tc p I).2).1,(CH ps (tc p I).2).2):=rfl
def yT:∀(ps:List jW) (I:It),(CH ps I).1.length=ps.length
 |[],_=>rfl
 |p::ps,I=>by rw[Hc]; simp[yT ps]
def BS:∀{ps:List jW} {i:Nat} {M M1:Mt},PY h ps i M=some M1→Ext M M1∧∀Mf,Ext M1 Mf→∀k,k<ps.length →
 (∃id,jd Mf.bd (i+k)=some (.at_ id)∧kin (lkB h id) (lkB (CH ps (rest Mf M)).1 k))∨(jd Mf.bd (i+k)=some .new∧∃t,lkB (CH ps (rest Mf M)).1 k=.row t 0 false [])∨(jd Mf.bd (i+k)=some .newd∧∃q,lkB (CH ps (rest Mf M)).1 k=.deep q 0 [])
 |[],i,M,M1,e=>by cases e; exact⟨Ext.refl _,fun Mf _ k hk=>by simp at hk⟩
 |p::ps,i,M,M1,e=>by
  simp only[PY] at e
  split at e<;>try (cases e; done)
  rename_i M2 h1;obtain⟨e1,t1⟩:=KA h1;obtain⟨e2,t2⟩:=BS e;refine⟨e1.trans e2,fun Mf he k hk=>?_⟩;obtain⟨t3,t4⟩:=t1 Mf (e2.trans he);rw[Hc,t3]
  cases k with
  |zero =>
   rcases t4 with⟨id,q1,q2⟩|⟨q1,q2⟩|⟨q1,q2⟩
   ·exact .inl ⟨id,(e1.trans (e2.trans he)).bd _ _ q1,q2⟩
   ·exact .inr (.inl ⟨(e1.trans (e2.trans he)).new _ q1,q2⟩)
   ·exact .inr (.inr ⟨(e1.trans (e2.trans he)).newd _ q1,q2⟩)
  |succ k =>
   have:=t2 Mf he k (by simpa using hk);rw[show i+(k+1)=i+1+k by omega];exact this
def Vh (H:HR ν h w):∀{ps:List jW} {i:Nat} {M M1:Mt},PY h ps i M=some M1→∀Mf,Ext M1 Mf→Fin ν h w Mf h'→∀k id cs us,k<ps.length→jd Mf.bd (i+k)=some (.at_ id)→lkB h id=.cells cs→ý (VRc ν h w) cs us →
 ∃cs',lkB (CH ps (rest Mf M)).1 k=.cells cs'∧ý (VRc (νb Mf.bd ν) h' w) cs' us
 |[],i,M,M1,e,Mf,_,_,k,_,_,_,hk,_,_,_=>by simp at hk
 |p::ps,i,M,M1,e,Mf,he,F,k,id,cs,us,hk,hb,hl,hv=>by
  simp only[PY] at e
  split at e<;>try (cases e; done)
  rename_i M2 h1;obtain⟨e1,t1⟩:=KA h1;obtain⟨e2,t2⟩:=BS e;obtain⟨t3,t4⟩:=t1 Mf (e2.trans he);rw[Hc,t3]
  cases k with
  |zero =>
   rcases t4 with⟨id',q1,q2⟩|⟨q1,q2⟩|⟨q1,q2⟩
   ·have:=(e1.trans (e2.trans he)).bd _ _ q1;have hb':jd Mf.bd i=some (.at_ id):=hb;rw[this] at hb';cases hb';exact aei H h1 q1 hl (e2.trans he) F hv
   ·have:=(e1.trans (e2.trans he)).new _ q1;have hb':jd Mf.bd i=some (.at_ id):=hb;rw[this] at hb';cases hb'
   ·have:=(e1.trans (e2.trans he)).newd _ q1;have hb':jd Mf.bd i=some (.at_ id):=hb;rw[this] at hb';cases hb'
  |succ k=>exact Vh H e Mf he F k id cs us (by simpa using hk) (by rw[show i+1+k=i+(k+1) by omega]; exact hb) hl hv
def EX:∀{l:List Bd} {i id:Nat},jd l i=some (.at_ id)→id∈Jn l
 |[],_,_,h=>by cases h
 |x::l,0,id,h=>by
  simp only[jd,Option.some.injEq] at h;subst h; simp[Jn]
 |x::l,i+1,id,h=>by
  have:=EX (l:=l) (i:=i) (id:=id) h
  cases x<;>simp[Jn,this]
def Im:∀{l:List Bd} {i j id:Nat},distinct (Jn l)=true→jd l i=some (.at_ id)→jd l j=some (.at_ id)→i=j
 |[],_,_,_,_,h,_=>by cases h
 |x::l,0,0,_,_,_,_=>rfl
 |x::l,0,j+1,id,hd,h1,h2=>by
  simp only[jd,Option.some.injEq] at h1;subst h1;simp only[Jn,distinct,cH] at hd;have:=EX (l:=l) (i:=j) (id:=id) h2;simp[this] at hd
 |x::l,i+1,0,id,hd,h1,h2=>by
  simp only[jd,Option.some.injEq] at h2;subst h2;simp only[Jn,distinct,cH] at hd;have:=EX (l:=l) (i:=i) (id:=id) h1;simp[this] at hd
 |x::l,i+1,j+1,id,hd,h1,h2=>by
  have hd':distinct (Jn l)=true:=by
   cases x<;>simp only[Jn,distinct,cH] at hd<;>first|exact hd|exact hd.2
  rw[Im (l:=l) hd' h1 h2]
def abN {pin n i:Nat} (hi:i<pin) (hn:pin≤n):jd (BH pin n) i=some (.at_ i):=by
 have key:∀(l:List Bd) (k:Nat),jd l k=l[k]?:=by
  intro l
  induction l with
  |nil=>intro k; simp[jd]
  |cons x l ih=>intro k; cases k with
   |zero=>rfl
   |succ k=>simpa[jd] using ih k
 rw[key,BH,eQ,f8 (by omega)];simp[hi]
def He:∀{pin:Nat},aeS h pin=true→∀i,i<pin→(∀t g xs,lkB h i=.row t g false xs→g=0)∧∀k g xss,lkB h i=.deep k g xss→g=0
 |0,_,i,hi=>by omega
 |pin+1,hg,i,hi=>by
  have hrec:aeS h pin=true∧(∀t g xs,lkB h pin=.row t (g+1) false xs→False)∧∀k g xss,lkB h pin=.deep k (g+1) xss→False:=by
   simp only[aeS] at hg
   split at hg<;>try (cases hg; done)
   rename_i hne1 hne2;exact⟨hg,fun t g xs e=>hne1 _ _ _ e,fun k g xss e=>hne2 _ _ _ e⟩
  rcases gM.1 hi with h1|rfl
  ·exact He hrec.1 i h1
  ·refine⟨fun t g xs hl=>?_,fun k g xss hl=>?_⟩
   ·cases g with
    |zero=>rfl
    |succ g=>exact(hrec.2.1 _ _ _ hl).elim
   ·cases g with
    |zero=>rfl
    |succ g=>exact(hrec.2.2 _ _ _ hl).elim
def Qh:∀(l:List AV) (n k:Nat),lk (l++List.replicate n .any) k=lk l k
 |[],0,_=>rfl
 |[],n+1,0=>rfl
 |[],n+1,k+1=>by simpa[f9,lk] using Qh [] n k
 |x::l,n,0=>rfl
 |x::l,n,k+1=>by simpa[lk] using Qh l n k
def Ig:∀(ps:List Pat) (I:It),(Hb ps I).1.length=ps.length
 |[],_=>rfl
 |p::ps,I=>by rw[uK]; simp[Ig ps]
def Rk:agh:=by
 intro T pin cs vs S p v ν a w e H;unfold AR at e
 split at e<;>try (cases e; done)
 rename_i hc;simp only[cH,decide_eq_true_eq] at hc;obtain⟨c1,c2,c3,c4⟩:=hc
 split at e<;>try (cases e; done)
 rename_i M0 hL
 split at e<;>try (cases e; done)
 rename_i M hH
 split at e<;>try (cases e; done)
 rename_i hd;simp only[cH,di] at hd;obtain⟨d1,d2⟩:=hd
 split at e<;>try (cases e; done)
 rename_i p' v' hp hv;cases e;have ep:Yc cs p=M.cons:=Z5 cs _ _ hp;have ev:Yc vs v=M.vars:=Z5 vs _ _ hv;obtain⟨eL,tL⟩:=BQ hL;obtain⟨eH,tH⟩:=BS hH
 -- the state of the pattern
 have hI0:({cons:=Yc cs p,vars:=Yc vs v}:It)=rest M {bd:=BH pin T.heap.length,cons:=[],vars:=[],freed:=[]}:=by
  simp[rest,ep,ev]
 have hinst:ü T cs vs p v={t:=(Hb T.slots (rest M {bd:=BH pin T.heap.length,cons:=[],vars:=[],freed:=[]})).1++List.replicate (T.n-T.slots.length) .any,h:=(CH T.heap (rest M M0)).1}:=by
  unfold ü;rw[hI0];have:=tL M eH;show(St.mk _ _)=_;rw[show(Hb T.slots (rest M {bd:=BH pin T.heap.length,cons:=[],vars:=[],freed:=[]})).2=rest M M0 from this]
 rw[hinst]
 have hblen:M.bd.length=T.heap.length:=by rw[eH.len,eL.len]; simp[BH]
 have hhlen:(CH T.heap (rest M M0)).1.length=T.heap.length:=yT _ _
 have F:Fin ν S.h w M (CH T.heap (rest M M0)).1:=by
  refine⟨fun i id hb=>?_,fun i hb=>?_,fun i hb=>?_,fun i h1 h2 h3=>?_,fun id hid i hb=>?_,fun i j id=>Im d1⟩
  ·have hi:i<T.heap.length:=by rw[←hblen]; exact yR hb
   rcases tH M (Ext.refl _) i hi with⟨id',q1,q2⟩|⟨q1,_⟩|⟨q1,_⟩
   ·rw[dw,hb] at q1; cases q1; exact q2
   ·rw[dw,hb] at q1; cases q1
   ·rw[dw,hb] at q1; cases q1
  ·have hi:i<T.heap.length:=by rw[←hblen]; exact yR hb
   rcases tH M (Ext.refl _) i hi with⟨id',q1,q2⟩|⟨q1,q2⟩|⟨q1,q2⟩
   ·rw[dw,hb] at q1; cases q1
   ·exact q2
   ·rw[dw,hb] at q1; cases q1
  ·have hi:i<T.heap.length:=by rw[←hblen]; exact yR hb
   rcases tH M (Ext.refl _) i hi with⟨id',q1,q2⟩|⟨q1,q2⟩|⟨q1,q2⟩
   ·rw[dw,hb] at q1; cases q1
   ·rw[dw,hb] at q1; cases q1
   ·exact q2
  ·rcases dg i T.heap.length with hi|hi
   ·rcases tH M (Ext.refl _) i hi with⟨id',q1,q2⟩|⟨q1,q2⟩|⟨q1,q2⟩
    ·rw[dw] at q1; exact absurd q1 (h1 id')
    ·rw[dw] at q1; exact absurd q1 h2
    ·rw[dw] at q1; exact absurd q1 h3
   ·exact WJ _ _ (by rw[hhlen]; exact hi)
  ·have:=d2 id hid;have hm:=EX hb;simp[hm] at this
 have hHR:HR (νb M.bd ν) (CH T.heap (rest M M0)).1 w:=by
  refine⟨fun i=>?_,fun i j b hi hj hbi hbj=>?_,H.heap.ghlt,fun i b hl hb hg=>?_⟩
  rotate_left 2
  ·obtain⟨id,q1,q2⟩:=F.subL b ⟨i,hl,hb⟩;exact H.heap.ghne id b q1 q2 hg
  ·cases hb:jd M.bd i with
   |none=>rw[F.out i (by simp[hb]) (by simp[hb]) (by simp[hb])]; trivial
   |some x =>
    cases x with
    |open_=>rw[F.out i (by simp[hb]) (by simp[hb]) (by simp[hb])]; trivial
    |newd =>
     obtain⟨k,hk⟩:=F.newd i hb;rw[hk];exact⟨none,0,[],ZT hb,cG _,fK _ _,.inl ⟨rfl,rfl⟩,trivial⟩
    |new =>
     obtain⟨t,ht⟩:=F.new i hb;rw[ht];exact⟨none,0,ac5 hb,cG _,.inl ⟨rfl,rfl⟩⟩
    |at_ id =>
     have hk:=F.at_ i id hb;have hB:=H.heap.blk id
     cases hl:lkB S.h id with
     |dead=>rw[hl] at hk; rw[show lkB _ i=_ from hk]; trivial
     |cells c =>
      rw[hl] at hB;obtain⟨b,arr,e',q1,q2,q3⟩:=hB
      have hi:i<T.heap.length:=by rw[←hblen]; exact yR hb
      obtain⟨cs',q4,q5⟩:=Vh H.heap hH M (Ext.refl _) F i id c arr.toList hi (by rw[dw]; exact hb) hl q3;rw[q4];exact⟨b,arr,e',(me hb).trans q1,q2,q5⟩
     |row t g fz xs =>
      rw[hl] at hk hB
      cases fz with
      |true =>
       rw[show lkB _ i=_ from hk];show CR w _ (.slice t) xs [_];rw[me hb];exact CR.mono F.sub hB
      |false =>
       rw[show lkB _ i=_ from hk];obtain⟨base,cap,q1,q2,q3⟩:=hB;refine⟨base,cap,(me hb).trans q1,q2,?_⟩;rcases q3 with q3|⟨b,off,c,e',q4,q5,q6,q7⟩
       ·exact .inl q3
       ·refine .inr ⟨b,off,c,e',q4,q5,q6,fun j x hx=>?_⟩;obtain⟨us,q8,q9⟩:=q7 j x hx;exact⟨us,CR.mono F.sub q8,q9⟩
     |map k u es =>
      rw[hl] at hk hB;rw[show lkB _ i=_ from hk];obtain⟨b,entries,clock,q1,q2,q3,q4⟩:=hB;refine⟨b,entries,clock,(me hb).trans q1,q2,q3,fun j x hx=>?_⟩;obtain⟨m,us,q5,q6,q7,q8⟩:=q4 j x hx;exact⟨m,us,q5,CR.mono F.sub q6,CR.mono F.sub q7,q8⟩
     |deep k g xss =>
      rw[hl] at hk hB;rw[show lkB _ i=_ from hk];obtain⟨base,cap,us,q1,q2⟩:=hB;exact⟨base,cap,us,(me hb).trans q1,q2⟩
     |acc t xs =>
      rw[hl] at hk hB;rw[show lkB _ i=_ from hk];obtain⟨us,q1,q2,q3,q4⟩:=hB;refine⟨us,(me hb).trans q1,by rw[me hb]; exact q2,q3,?_⟩;rw[me hb];exact Ghost.st _ _ _ _ _ _ q4 ⟨rfl,rfl,rfl,cG _,fun b _ hn hx=>hn (F.sub b hx),fun b o ho _ _=>ho,fun b o ho _ _=>ho⟩
  ·have at1:∀i,(lkB (CH T.heap (rest M M0)).1 i).live=true→Ļ (νb M.bd ν i) b→∃id,jd M.bd i=some (.at_ id)∧(lkB S.h id).live=true∧Ļ (ν id) b:=fun i hi hbi=>by
    cases hb:jd M.bd i with
    |none=>rw[F.out i (by simp[hb]) (by simp[hb]) (by simp[hb])] at hi; cases hi
    |some x =>
     cases x with
     |open_=>rw[F.out i (by simp[hb]) (by simp[hb]) (by simp[hb])] at hi; cases hi
     |new=>simp only[νb,hb] at hbi; cases hbi
     |newd =>
      simp only[νb,hb] at hbi;obtain⟨u,hu,hbi⟩:=hbi;simp at hu;subst hu;cases hbi
     |at_ id =>
      refine⟨id,rfl,?_,by simpa[νb,hb] using hbi⟩;have hk:=F.at_ i id hb
      cases hB':lkB S.h id with
      |dead=>rw[hB'] at hk; rw[show lkB _ i=_ from hk] at hi; cases hi
      |cells=>rfl
      |map=>rfl
      |deep=>rfl
      |acc=>rfl
      |row t g fz xs =>
       cases fz with
       |false=>rfl
       |true=>rw[hB'] at hk; rw[show lkB _ i=_ from hk] at hi; cases hi
   obtain⟨id,q1,q2,q3⟩:=at1 i hi hbi;obtain⟨id',q4,q5,q6⟩:=at1 j hj hbj;have:=H.heap.inj id id' b q2 q5 q3 q6;subst this;exact F.inj i j id q1 q4
 have hpin:∀i,i<pin→jd M.bd i=some (.at_ i):=fun i hi=>(eL.trans eH).bd i i (abN hi c1);refine⟨νb M.bd ν,⟨H.defers,?_,fun i=>?_,hHR⟩,⟨rfl,rfl,rfl,cG _,fun b _ hb=>⟨rfl,fun hb'=>hb (F.subL b hb')⟩,fun i hi=>?_⟩,by rw[hhlen]; exact c1,fun i hi hdead=>?_⟩
 ·have:=H.len;simp only[cJ,fw,Ig];omega
 ·simp only[Qh];exact Vg H.heap hL M eH F (fun k=>a.tmps.getD k undef) (fun k=>H.tmps k) i
 ·have hb:=hpin i hi;have hk:=F.at_ i i hb
  cases hl:lkB S.h i with
  |dead=>trivial
  |cells c=>rw[hl] at hk; exact⟨hk,me hb⟩
  |row t g fz xs =>
   rw[hl] at hk
   cases fz with
   |true=>exact⟨g,true,xs,hk,cG _,fun _=>⟨me hb,rfl⟩⟩
   |false =>
    have hg:=(He c4 i hi).1 t g xs hl;exact⟨0,false,xs,hk,by omega,fun _=>⟨me hb,rfl⟩⟩
  |map k u es=>rw[hl] at hk; exact⟨⟨es,hk⟩,me hb⟩
  |deep k g xss =>
   rw[hl] at hk;have hg:=(He c4 i hi).2 k g xss hl;exact⟨0,xss,hk,by omega,fun _=>⟨me hb,rfl⟩⟩
  |acc t xs=>rw[hl] at hk; exact⟨xs,hk⟩
 ·have hk:=F.at_ i i (hpin i hi);rw[hdead] at hk;exact hk
end
end Go.Am
end

noncomputable section
namespace Go.Am
variable [Ghost]
section
variable {ρ:Type} {ν ν':Nat→Value} {h h':List Blk} {w w':World} {P:Program}
def kY (w:World) (G:Nat→Prop) (t:Ty) (x:Val t) (v:Value):Prop:=∃us,CR w G t x us∧v=xr t us
def AT (w:World) (G:Nat→Prop):(l:List Ty)→(t:Ty)→Val (tys t l)→List Value→Prop
 |[],t,x,vs=>∃v,vs=[v]∧kY w G t x v
 |u::l,t,x,vs=>∃v vs',vs=v::vs'∧kY w G t (x:Val t×Val (tys u l)).1 v∧AT w G l u (x:Val t×Val (tys u l)).2 vs'
def AL (w:World) (G:Nat→Prop):(l:List Ty)→Val (tyL l)→List Value→Prop
 |[],_,vs=>vs=[]
 |t::l,x,vs=>AT w G l t x vs
def RR (w:World) (G:Nat→Prop):(l:List Ty)→Val (tyL l)→Value→Prop
 |[],_,u=>u=.tuple #[]
 |[t],x,u=>kY w G t x u
 |t::u'::l,x,u=>∃vs,u=.tuple vs∧AT w G (u'::l) t x vs.toList
def ki (P:Program) (f:Nat) (p:ã):Prop :=
 ∀(G:Nat→Prop) (x:Val (tyL p.ts)) (y:Val (tyL p.rs)),p.F x=some y→∀(w:World) (vals:List Value),(∀b,G b→b<w.heap.size)→AL w G p.ts x vals →
  (∃fn c,P.funcs[f]?=some fn∧fn.body=some c) ∧
  CallsIn Fence.wide 0 P f vals.toArray w fun e w'=>∃u,e=.returned u∧RR w' G p.rs y u∧(∀b,b<w.heap.size→w'.heap[b]?=w.heap[b]?)∧w.heap.size≤w'.heap.size∧w'.os=w.os∧w'.tape=w.tape∧w'.output=w.output
def TK {a:AV} {vs:List AV} (e:ś a=some vs):lV a=vs:=by
 cases a<;>simp only[ś,Option.some.injEq,reduceCtorEq] at e<;>exact e
def zl {G:Nat→Prop} {t:Ty} {x:Val t} {a:AV} {v:Value} {vs:List AV} (hag:(Qm a==t.isAgg)=true) (hc:ś a=some vs) (hv:VR ν h w a v)
 (hs:∀c∈lV a,∀u,VR1 ν h w c u→VRs w G (ÿ h c) u) (e:Ú t (vs.map (ÿ h))=some x):kY w G t x v:=by
 have h1:=hv.cells hc;have h2:ý (VRs w G) (vs.map (ÿ h)) v.cells.toList:=ý.map_left (aux vs _ h1 fun c hm u hu=>hs c (by rw[TK hc]; exact hm) u hu.1);refine⟨_,ğ e h2,?_⟩
 cases ha:a.isAgg with
 |true =>
  cases a<;>try cases ha
  obtain⟨us,rfl,_⟩:=hv
  have:t.isAgg=true:=by simpa[Qm] using hag
  simp[xr,this,Value.cells]
 |false =>
  have hn:Qm a=false:=by cases a<;>first|rfl|cases ha
  have htf:t.isAgg=false:=by rw[hn] at hag; simpa using hag
  have htu:a.isTup=false:=by cases a<;>first|rfl|cases hc
  have h3:=(hv.one ha htu).oneCell hc;simp[xr,htf,qD h3]
where
 aux {w:World} {G:Nat→Prop} {ν:Nat→Value} {h:List Blk} (vs:List AV) (us:List Value) (h1:ý (VRc ν h w) vs us) (hh:∀c∈vs,∀u,VRc ν h w c u→VRs w G (ÿ h c) u):ý (fun c b=>VRs w G (ÿ h c) b) vs us:=by
  induction vs generalizing us with
  |nil=>cases us with
   |nil=>trivial
   |cons=>exact h1.elim
  |cons c vs ih=>cases us with
   |nil=>exact h1.elim
   |cons u us=>exact⟨hh c (by simp) u h1.1,ih us h1.2 fun c hm u hu=>hh c (by simp[hm]) u hu⟩
def TZ (H:HR ν h w) {G:Nat→Prop} {t:Ty} {x:Val t} {a:AV} {v:Value} (hv:VR ν h w a v)
 (hs:∀c∈lV a,∀u,VR1 ν h w c u→VRs w G (ÿ h c) u) (hb:∀id cs,a=.box id 0→lkB h id=.cells cs→(∀b,Ļ (ν id) b→¬G b)∧∀c∈cs,∀u,VR1 ν h w c u→VRs w G (ÿ h c) u) (hd:∀id g,a=.dp id g→(lkB h id).live=true→∀b,Ļ (ν id) b→¬G b) (e:agu h t a=some x):kY w G t x v:=by
 cases ht:(match t with|.ptr _=>true|_=>false) with
 |false =>
  by_cases hdp:∃id g,a=.dp id g
  ·obtain⟨id,g,rfl⟩:=hdp
   have e':(match lkB h id with
    |.deep k g' xss=>match g==g' with
     |true=>match decEq (Ty.slice (.slice (.int k))) t with
      |isTrue e=>some (wE (F:=Val) e xss)
      |isFalse _=>none
     |false=>none
    |_=>none)=some x:=by
    cases t<;>first|exact e|cases ht
   split at e'<;>try (cases e'; done)
   rename_i k g' xss hl
   split at e'<;>try (cases e'; done)
   rename_i hg
   split at e'<;>try (cases e'; done)
   rename_i hty _;subst hty;cases e';obtain⟨ho,k2,g2,xss2,hl2,_,hq⟩:=hv;rw[hl] at hl2; cases hl2;have hcr:=Ul H hl (hq (by simpa using hg)) (hd id g rfl (by rw[hl]; rfl));exact⟨[v],hcr,rfl⟩
  have e':(match Qm a==t.isAgg with|true=>(match ś (aaa h a) with|some cs=>Ú t cs|none=>none)|false=>none)=some x:=by
   have hn:∀id g,a≠.dp id g:=fun id g q=>hdp ⟨id,g,q⟩
   cases t<;>first|(cases ht; done)|(cases a<;>first|exact e|exact absurd rfl (hn _ _))
  split at e'<;>try (cases e'; done)
  rename_i hag
  split at e'<;>try (cases e'; done)
  rename_i cs hcs;obtain⟨vs,h1,rfl⟩:=FT hcs;exact zl hag h1 hv hs e'
 |true =>
  cases t<;>try cases ht
  rename_i u;simp only[agu] at e
  split at e<;>try (cases e; done)
  ·rename_i id
   split at e<;>try (cases e; done)
   rename_i cs hl;obtain⟨cs',b,h1,h2,h3⟩:=hv.one rfl rfl;have hB:=H.blk id;rw[hl] at hB;obtain⟨b',c,e',h4,h5,h6⟩:=hB;rw[h2] at h4; cases h4;obtain⟨hG,hcs⟩:=hb id cs rfl hl;have hcr:CR w G u x c.toList:=ğ e (ý.map_left (zl.aux cs _ h6 fun c hc u hu=>hcs c hc u hu.1));refine⟨[v],⟨b,0,c.toList,by rw[h3],hG b (by rw[h2]; rfl),ď h5,hcr,CellsAt.of_cells h5⟩,rfl⟩
  ·rename_i t' y
   split at e<;>try (cases e; done)
   rename_i heq _;subst heq;cases e;have h1:=hs _ (by simp[lV]) v (hv.one rfl rfl);obtain⟨b,o,us,h2,h3,h4,h5,h6⟩:=h1;exact⟨[v],⟨b,o,us,by rw[h2]; rfl,h3,h4,h5,h6⟩,rfl⟩
def NC (H:HR ν h w) {G:Nat→Prop}:∀(l:List Ty) (t:Ty) (x:Val (tys t l)) (as:List AV) (vs:List Value),ý (VR ν h w) as vs →
 (∀a∈as,∀c∈lV a,∀u,VR1 ν h w c u→VRs w G (ÿ h c) u)→(∀a∈as,∀id cs,a=.box id 0→lkB h id=.cells cs→(∀b,Ļ (ν id) b→¬G b)∧∀c∈cs,∀u,VR1 ν h w c u→VRs w G (ÿ h c) u)→(∀a∈as,∀id g,a=.dp id g→(lkB h id).live=true→∀b,Ļ (ν id) b→¬G b)→TY h l t as=some x→AT w G l t x vs
 |[],t,x,[],vs,_,_,_,_,e=>by cases e
 |[],t,x,[a],vs,hv,hs,hb,hd,e=>by
  obtain⟨v,rfl,h1⟩:=hv.one;exact⟨v,rfl,TZ H h1 (hs a (by simp)) (hb a (by simp)) (hd a (by simp)) e⟩
 |[],t,x,_::_::_,vs,_,_,_,_,e=>by cases e
 |u::l,t,x,[],vs,_,_,_,_,e=>by cases e
 |u::l,t,x,a::as,[],hv,_,_,_,e=>hv.elim
 |u::l,t,x,a::as,v::vs,hv,hs,hb,hd,e=>by
  simp only[TY] at e
  split at e<;>try (cases e; done)
  rename_i y hy
  split at e<;>try (cases e; done)
  rename_i z hz;cases e;exact⟨v,vs,rfl,TZ H hv.1 (hs a (by simp)) (hb a (by simp)) (hd a (by simp)) hy,NC H l u z as vs hv.2 (fun a ha=>hs a (by simp[ha])) (fun a ha=>hb a (by simp[ha])) (fun a ha=>hd a (by simp[ha])) hz⟩
def FG (H:HR ν h w) {G:Nat→Prop} {l:List Ty} {x:Val (tyL l)} {as:List AV} {vs:List Value} (hv:ý (VR ν h w) as vs)
 (hs:∀a∈as,∀c∈lV a,∀u,VR1 ν h w c u→VRs w G (ÿ h c) u) (hb:∀a∈as,∀id cs,a=.box id 0→lkB h id=.cells cs→(∀b,Ļ (ν id) b→¬G b)∧∀c∈cs,∀u,VR1 ν h w c u→VRs w G (ÿ h c) u) (hd:∀a∈as,∀id g,a=.dp id g→(lkB h id).live=true→∀b,Ļ (ν id) b→¬G b) (e:CS h l as=some x):AL w G l x vs:=by
 cases l with
 |nil=>cases as with
  |nil=>exact hv.nil_left
  |cons=>cases e
 |cons t l=>exact NC H l t x as vs hv hs hb hd e
def kY.mono {G G':Nat→Prop} (hm:∀b,G' b→G b) {t:Ty} {x:Val t} {v:Value} (hv:kY w G t x v):kY w G' t x v:=by
 obtain⟨us,h1,h2⟩:=hv;exact⟨us,CR.mono hm h1,h2⟩
def Hf {av av':Nat→Prop}:∀{t:Ty} {x:Val t} {us:List Value},(flat t x).all AJ=true→CR w av t x us→CR w av' t x us
 |.unit,_,_,_,hc=>hc
 |.bool,_,_,_,hc=>hc
 |.int _,_,_,_,hc=>hc
 |.str,_,_,_,hc=>hc
 |.slice _,_,_,hp,_=>by simp[flat,AJ] at hp
 |.map _ _,_,_,hp,_=>by simp[flat,AJ] at hp
 |.ptr _,_,_,hp,_=>by simp[flat,AJ] at hp
 |.pair a b,x,us,hp,hc=>by
  simp only[flat,List.all_append,cH] at hp;obtain⟨u1,u2,e,h1,h2⟩:=hc;exact⟨u1,u2,e,Hf hp.1 h1,Hf hp.2 h2⟩
def ae7 {t:Ty} {x:Val t} (hp:plain (enc t x)=true):(flat t x).all AJ=true:=by
 cases t<;>first|exact hp|(simp only[enc,plain,AJ] at hp; simp[flat,AJ])|(simp[enc,plain,AJ] at hp)
def kY.plain {G G':Nat→Prop} {t:Ty} {x:Val t} {v:Value} (hp:plain (enc t x)=true) (hv:kY w G t x v):kY w G' t x v:=by
 obtain⟨us,h1,h2⟩:=hv;exact⟨us,Hf (ae7 hp) h1,h2⟩
def AT.plain {G G':Nat→Prop}:∀{l:List Ty} {t:Ty} {x:Val (tys t l)} {vs:List Value},(ae8 l t x).all Go.Am.plain=true→AT w G l t x vs→AT w G' l t x vs
 |[],t,x,vs,hp,⟨v,h1,h2⟩=>⟨v,h1,h2.plain (by simpa[ae8] using hp)⟩
 |u::l,t,x,vs,hp,⟨v,vs',h1,h2,h3⟩=>by
  simp only[ae8,fI,cH] at hp;exact⟨v,vs',h1,h2.plain hp.1,AT.plain hp.2 h3⟩
def UK {v:AV} (hp:v.isTup=false):Kh v=Go.Am.plain v:=by cases v<;>first|rfl|cases hp
def Hn {t:Ty} {x:Val t}:(enc t x).isTup=false:=by cases t<;>rfl
def RR.plain {G G':Nat→Prop}:∀{l:List Ty} {x:Val (tyL l)} {u:Value},Kh (XI l x)=true→RR w G l x u→RR w G' l x u
 |[],_,_,_,h=>h
 |[t],x,u,hp,h=>kY.plain ((UK (Hn (t:=t) (x:=x))).symm.trans hp) h
 |t::u'::l,x,u,hp,⟨vs,h1,h2⟩=>⟨vs,h1,h2.plain hp⟩
def kY.VR {t:Ty} {x:Val t} {v:Value} (hv:kY w (Av ν h) t x v):VR ν h w (enc t x) v:=by
 obtain⟨us,h1,rfl⟩:=hv;exact Il h1
def AT.VR:∀{l:List Ty} {t:Ty} {x:Val (tys t l)} {vs:List Value},AT w (Av ν h) l t x vs→ý (VR ν h w) (ae8 l t x) vs
 |[],t,x,_,⟨v,rfl,h2⟩=>⟨h2.VR,trivial⟩
 |u::l,t,x,_,⟨v,vs',rfl,h2,h3⟩=>⟨h2.VR,AT.VR h3⟩
def Nb:∀{l:List Ty} {t:Ty} {x:Val (tys t l)},∀a∈ae8 l t x,a.isTup=false
 |[],t,x,a,hm=>by simp only[ae8,cP] at hm; rw[hm]; exact Hn
 |u::l,t,x,a,hm=>by
  simp only[ae8,cN] at hm;rcases hm with rfl|hm
  ·exact Hn
  ·exact Nb a hm
def ý.VR2:∀{as:List AV} {vs:List Value},ý (VR ν h w) as vs→(∀a∈as,a.isTup=false)→ý (VR2 ν h w) as vs
 |[],[],_,_=>trivial
 |a::as,v::vs,hv,hn=>⟨by rw[←xp (hn a (by simp))]; exact hv.1,ý.VR2 hv.2 fun a ha=>hn a (by simp[ha])⟩
 |[],_::_,hv,_=>hv.elim
 |_::_,[],hv,_=>hv.elim
def RR.VR:∀{l:List Ty} {x:Val (tyL l)} {u:Value},RR w (Av ν h) l x u→VR ν h w (XI l x) u
 |[],_,_,h=>by cases h; exact⟨#[],rfl,trivial⟩
 |[t],x,u,h=>kY.VR h
 |t::u'::l,x,u,⟨vs,h1,h2⟩=>⟨vs,h1,ý.VR2 h2.VR Nb⟩
def FM (P:Program) (g:Nat) (ν:Nat→Value) (h:List Blk) (w:World) (vals:List Value) (K:AV→List Blk→Option ρ) (r:ρ):Prop :=
 (∃fn c,P.funcs[g]?=some fn∧fn.body=some c) ∧
 CallsIn Fence.wide 0 P g vals.toArray w fun e w'=>∃ν' h' v u,e=.returned u∧VR ν' h' w' v u∧HR ν' h' w'∧Ev h.length ν h w ν' h' w'∧h.length≤h'.length∧(∀j,j<h.length→lkB h j=.dead→lkB h' j=.dead)∧K v h'=some r
def aaV {c:AV} {u:Value}:∀{as:List AV} {h:List Blk},HR ν h w→c∈as→Ku c=true→VR1 ν h w c u→VRs w (Av ν (AC h as)) (ÿ h c) u
 |[],_,_,hm,_,_=>by cases hm
 |a::as,h,H,hm,hn,hv=>by
  obtain⟨e1,H1,l1⟩:=MR H a;rcases cN.1 hm with rfl|hm
  ·exact VRs.mono ((CJ as H1).2.2) (MQ H hv hn)
  ·have:=aaV (as:=as) H1 hm hn (hv.ev e1)
   rwa [FU] at this
def abV {f:Nat} {p:ã} (hp:ki P f p) {b:Bool} {args:List AV} {K:AV→List Blk→Option ρ} {r:ρ} (e:QZ b p h args K=some r) (H:HR ν h w) {vals:List Value} (hv:ý (VR ν h w) args vals):FM P f ν h w vals K r:=by
 unfold QZ at e
 split at e<;>try (cases e; done)
 rename_i x hx;simp only[Ä] at e
 split at e<;>try (cases e; done)
 rename_i y hy
 -- the call, with what may not be touched
 have call:∀(G:Nat→Prop),(∀b,G b→b<w.heap.size)→AL w G p.ts x vals→∀(h':List Blk),HR ν h' w→Ev h.length ν h w ν h' w→h.length≤h'.length→(∀j,j<h.length→lkB h j=.dead→lkB h' j=.dead) →
  (∀w' u,RR w' G p.rs y u→RR w' (Av ν h') p.rs y u)→K (XI p.rs y) h'=some r→FM P f ν h w vals K r:=by
  intro G hG hal h' H' ev hl hdead hrr hK;obtain⟨h1,h2⟩:=hp G x y hy w vals hG hal;refine⟨h1,h2.mono fun e w' hw=>?_⟩;obtain⟨u,rfl,g1,g2,g3,g4,g5,g6⟩:=hw;obtain⟨ev',H''⟩:=H'.grow g2 g3 g4 g5 g6 h.length;exact⟨ν,h',_,u,rfl,(hrr w' u g1).VR,H'',ev.trans ev' (cG _),hl,hdead,hK⟩
 split at e
 ·rename_i hpl;exact call (fun _=>False) (fun _ hf=>hf.elim) (FG H hv (fun a _ c _ u hu=>C6 H hu) (fun _ _ _ _ _ _=>⟨fun _ _ hf=>hf,fun c _ u hu=>C6 H hu⟩) (fun _ _ _ _ _ _ _ _ hf=>hf) hx) h H (Ev.refl _ _ _ _) (cG _) (fun _ _ hd=>hd) (fun w' u hr=>hr.plain hpl) e
 ·split at e
  ·rename_i hown
   have hown':∀a∈args,NE a=false:=fun a ha=>by have:=di.1 hown a ha; simpa using this
   refine call (Av ν h) (fun b hb=>H.ltA hb) (FG H hv (fun a ha c hc u hu=>?_) (fun a ha id cs hid _=>?_) (fun a ha id g hid=>?_) hx) h H (Ev.refl _ _ _ _) (cG _) (fun _ _ hd=>hd) (fun w' u hr=>hr) e
   ·have hc1:CU c=false:=by
     have:=hown' a ha
     cases a<;>first
      |(simp only[lV,cP] at hc; subst hc; exact this)
      |(simp only[lV] at hc; simp only[NE,dM] at this; simpa using this c hc)
    have:ÿ h c=c:=by cases c<;>first|rfl|cases hc1
    rw[this]; exact hu.data
   ·subst hid; cases hown' _ ha
   ·subst hid; cases hown' _ ha
  ·split at e<;>try (cases e; done)
   rename_i hnr;simp only[gB,ff] at hnr;have hnr':∀a∈args,aeb a=true:=di.1 hnr.2;obtain⟨ev,H',hsub⟩:=CJ (args.flatMap lV) H;refine call (Av ν (AC h (args.flatMap lV))) (fun b hb=>H'.ltA hb) (FG H hv (fun a ha c hc u hu=>?_) (fun a ha id cs hid _=>?_) (fun a ha id g hid=>?_) hx) _ H' ev (by rw[ζ]; exact cG _) (fun _ _ hd=>MO _ hd) (fun w' u hr=>hr) e
   ·refine aaV H (dk.2 ⟨a,ha,hc⟩) ?_ hu;have:=hnr' a ha
    have hc1:aea c=true:=by
     cases a<;>first
      |(simp only[lV,cP] at hc; subst hc; exact this)
      |(simp only[lV] at hc; simp only[aeb,di] at this; exact this c hc)
    cases c<;>first|rfl|cases hc1
   ·subst hid; cases hnr' _ ha
   ·subst hid; cases hnr' _ ha
end
end Go.Am
end

noncomputable section
namespace Go.Am
section
variable {w w':World} {X X':Nat→Prop}
structure ah5 (w:World) (X:Nat→Prop) (w':World) (X':Nat→Prop):Prop where
 size:w.heap.size≤w'.heap.size
 av:∀b,b<w.heap.size→¬X b→¬X' b
 dat:∀(b:Nat) (o:Obj),w.heap[b]?=some o→NR o=true→¬X b→w'.heap[b]?=some o
def ahJ {w:World} {a:Addr} {v:Value} (h:w.cell? a=some v):∃o,w.heap[a.block]?=some o∧NR o=true∧∀w':World,w'.heap[a.block]?=some o→w'.cell? a=some v:=by
 unfold World.cell? at h
 split at h<;>try (cases h; done)
 rename_i c e r hb;exact⟨_,hb,rfl,fun w' h'=>by unfold World.cell?; rw[h']; exact h⟩
def CellsAt.kx (K:ah5 w X w' X') {b off:Nat} {vs:List Value} (hb:¬X b) (h:CellsAt w b off vs):CellsAt w' b off vs:=fun j v hj=>by
 obtain⟨o,h1,h2,h3⟩:=ahJ (h j v hj);exact h3 w' (K.dat b o h1 h2 hb)
def CR.kx (K:ah5 w X w' X'):∀{t:Ty} {x:Val t} {vs:List Value},CR w X t x vs→CR w' X' t x vs
 |.unit,_,_,h=>h
 |.bool,_,_,h=>h
 |.int _,_,_,h=>h
 |.str,_,_,h=>h
 |.slice t,xs,vs,h=>by
  obtain⟨base,cap,e,hc,h⟩:=h;refine⟨base,cap,e,hc,?_⟩;rcases h with h|⟨b,off,hb,hav,hlt,h⟩
  ·exact .inl h
  ·refine .inr ⟨b,off,hb,K.av b hlt hav,dc hlt K.size,fun i x hx=>?_⟩;obtain⟨us,h1,h2⟩:=h i x hx;exact⟨us,CR.kx K h1,h2.kx K hav⟩
 |.map k v,es,vs,h=>by
  obtain⟨r,e,h⟩:=h;refine⟨r,e,?_⟩;rcases h with h|⟨b,entries,clock,hr,hav,hh,hs,h⟩
  ·exact .inl h
  ·refine .inr ⟨b,entries,clock,hr,K.av b (ď hh) hav,K.dat b _ hh rfl hav,hs,fun i x hx=>?_⟩;obtain⟨m,us,h1,h2,h3,h4⟩:=h i x hx;exact⟨m,us,h1,CR.kx K h2,CR.kx K h3,h4⟩
 |.ptr t,x,vs,h=>by
  obtain⟨b,off,us,e,hav,hlt,h1,h2⟩:=h;exact⟨b,off,us,e,K.av b hlt hav,dc hlt K.size,CR.kx K h1,h2.kx K hav⟩
 |.pair a b,x,vs,h=>by
  obtain⟨us,ws,e,h1,h2⟩:=h;exact⟨us,ws,e,CR.kx K h1,CR.kx K h2⟩
end
section
variable {g:Ghost} {G':Nat→Prop} {D:List Deferred} {Q:Option Nat} {M:Nat} {ν:Nat→Value} {h:List Blk} {w w':World}
structure mc (g:Ghost) (ν:Nat→Value) (h:List Blk) (w:World) (G':Nat→Prop) (w':World):Prop where
 os:w'.os=w.os
 tape:w'.tape=w.tape
 output:w'.output=w.output
 size:w.heap.size≤w'.heap.size
 av:∀b,b<w.heap.size→¬@Av g ν h b→¬G' b
 dat:∀(b:Nat) (o:Obj),w.heap[b]?=some o→NR o=true→(@Av g ν h b→CW ν h b)→w'.heap[b]?=some o
 nd:∀(b:Nat) (o:Obj),w.heap[b]?=some o→NR o=false→b<g.B→w'.heap[b]?=some o
def mc.kx (K:mc g ν h w G' w'):ah5 w (@Av g ν h) w' (@Av (g.re G' D Q M) ν h) :=
 ⟨K.size,fun b hb hn hx=>hx.elim (fun hl=>hn (.inl hl)) (K.av b hb hn),fun b o hb ho hn=>K.dat b o hb ho fun hx=>absurd hx hn⟩
def VR0.step (K:mc g ν h w G' w') {a:AV} {v:Value} (hv:@VR0 g ν h w a v):@VR0 (g.re G' D Q M) ν h w' a v:=by
 cases a with
 |slc t xs=>exact CR.kx (mc.kx (D:=D) (Q:=Q) (M:=M) K) (t:=.slice t) hv
 |mp k t es=>exact CR.kx (mc.kx (D:=D) (Q:=Q) (M:=M) K) (t:=.map k t) hv
 |eptr t x off =>
  obtain⟨b,o,us,h1,h2,h3,h4,h5⟩:=hv;have K':=mc.kx (D:=D) (Q:=Q) (M:=M) K;exact⟨b,o,us,h1,K'.av b h3 h2,dc h3 K.size,CR.kx K' h4,h5.kx K' h2⟩
 |_=>exact hv
def VR1.step (K:mc g ν h w G' w') {a:AV} {v:Value} (hv:@VR1 g ν h w a v):@VR1 (g.re G' D Q M) ν h w' a v:=by
 cases hf:a.isFn with
 |true =>
  cases a<;>try cases hf
  obtain⟨fs,cs,h1,h2,h3⟩:=hv;exact⟨fs,cs,h1,h2.mono fun _ _=>VR0.step K,h3.mono fun _ _=>VR0.step K⟩
 |false =>
  rw[@xd (g.re G' D Q M) _ _ _ _ _ hf];rw[@xd g _ _ _ _ _ hf] at hv;exact VR0.step K hv
def VRc.step (K:mc g ν h w G' w') {a:AV} {v:Value} (hv:@VRc g ν h w a v):@VRc (g.re G' D Q M) ν h w' a v:=⟨VR1.step K hv.1,hv.2⟩
def VR2.step (K:mc g ν h w G' w') {a:AV} {v:Value} (hv:@VR2 g ν h w a v):@VR2 (g.re G' D Q M) ν h w' a v:=by
 cases hf:a.isAgg with
 |true =>
  cases a<;>try cases hf
  obtain⟨vs,h1,h2⟩:=hv;exact⟨vs,h1,h2.mono fun _ _=>VRc.step K⟩
 |false =>
  rw[@zn (g.re G' D Q M) _ _ _ _ _ hf];rw[@zn g _ _ _ _ _ hf] at hv;exact VR1.step K hv
def VR.step (K:mc g ν h w G' w') {a:AV} {v:Value} (hv:@VR g ν h w a v):@VR (g.re G' D Q M) ν h w' a v:=by
 cases hf:a.isTup with
 |true =>
  cases a<;>try cases hf
  obtain⟨vs,h1,h2⟩:=hv;exact⟨vs,h1,h2.mono fun _ _=>VR2.step K⟩
 |false =>
  rw[@xp (g.re G' D Q M) _ _ _ _ _ hf];rw[@xp g _ _ _ _ _ hf] at hv;exact VR2.step K hv
def HR.step (K:mc g ν h w G' w') (hlt:∀b,G' b→b<w'.heap.size) (hne:∀b,CW ν h b→¬G' b) (H:@HR g ν h w):@HR (g.re G' D Q M) ν h w':=by
 have K':ah5 w (@Av g ν h) w' (@Av (g.re G' D Q M) ν h):=mc.kx K;have live:∀(id b:Nat) (o:Obj),(lkB h id).live=true→Ļ (ν id) b→w.heap[b]?=some o→NR o=true→w'.heap[b]?=some o:=fun id b o hl ho hb hd=>K.dat b o hb hd fun _=>⟨id,hl,ho⟩;refine @HR.mk (g.re G' D Q M) ν h w' (fun id=>?_) (@HR.inj g _ _ _ H) hlt (fun id b hl hb=>hne b ⟨id,hl,hb⟩);have hB:=@HR.blk g _ _ _ H id;have hlv:=live id
 cases hl:lkB h id with
 |dead=>trivial
 |cells cs =>
  rw[hl] at hB hlv;obtain⟨b,c,e,h1,h2,h3⟩:=hB;exact⟨b,c,e,h1,hlv b _ rfl (by rw[h1]; rfl) h2 rfl,h3.mono fun _ _=>VRc.step K⟩
 |row t g' fz xs =>
  rw[hl] at hB hlv
  cases fz with
  |true=>exact CR.kx K' (t:=.slice t) hB
  |false =>
   obtain⟨base,cap,h1,h2,h3⟩:=hB;refine⟨base,cap,h1,h2,?_⟩;rcases h3 with h3|⟨b,off,c,e,h4,h5,h6,h7⟩
   ·exact .inl h3
   ·have h5':=hlv b _ rfl (by rw[h1,h4]; rfl) h5 rfl;refine .inr ⟨b,off,c,e,h4,h5',h6,fun i x hx=>?_⟩;obtain⟨us,q1,q2⟩:=h7 i x hx;exact⟨us,CR.kx K' q1,q2.keep (h5'.trans h5.symm)⟩
 |map k v es =>
  rw[hl] at hB hlv;obtain⟨b,entries,clock,h1,h2,h3,h4⟩:=hB;refine⟨b,entries,clock,h1,hlv b _ rfl (by rw[h1]; rfl) h2 rfl,h3,fun i x hx=>?_⟩;obtain⟨m,us,q1,q2,q3,q4⟩:=h4 i x hx;exact⟨m,us,q1,CR.kx K' q2,CR.kx K' q3,q4⟩
 |deep k g' xss =>
  rw[hl] at hB hlv;obtain⟨base,cap,us,h1,h2,h3,h4,h5⟩:=hB;have own:∀u∈Value.slice base xss.length cap::us,∀(b:Nat) (o:Obj),kg u=some b→w.heap[b]?=some o→NR o=true→w'.heap[b]?=some o:=fun u hu b o hb=>hlv b o rfl (by rw[h1]; exact⟨u,by simpa using hu,hb⟩);refine⟨base,cap,us,h1,h2,h3,?_,?_⟩
  ·rcases h4 with h4|⟨b,off,c,e,q1,q2,q3⟩
   ·exact .inl h4
   ·exact .inr ⟨b,off,c,e,q1,own _ (.head _) b _ (by rw[q1]; rfl) q2 rfl,q3⟩
  ·have key:∀(l:List (List Int)) (m:List Value),(∀u∈m,u∈us)→ý (ZM w k) l m→ý (ZM w' k) l m:=by
    intro l
    induction l with
    |nil=>intro m _ hm; cases m with
     |nil=>trivial
     |cons=>exact hm.elim
    |cons x l ih=>intro m hs hm; cases m with
     |nil=>exact hm.elim
     |cons u m =>
      refine⟨?_,ih m (fun u hu=>hs u (du _ hu)) hm.2⟩;obtain⟨base2,cap2,q1,q2,q3⟩:=hm.1;refine⟨base2,cap2,q1,q2,?_⟩;rcases q3 with q3|⟨b,off,c,e,q4,q5,q6⟩
      ·exact .inl q3
      ·exact .inr ⟨b,off,c,e,q4,own u (du _ (hs u (.head _))) b _ (by rw[q1,q4]; rfl) q5 rfl,q6⟩
   exact key _ _ (fun u hu=>hu) h5
 |acc t xs =>
  rw[hl] at hB hlv;obtain⟨us,h1,h2,h3,h4⟩:=hB;refine⟨us,h1,fun b hb=>?_,h3,?_⟩
  ·obtain⟨o,q1,q2⟩:=h2 b hb;exact⟨o,hlv b o rfl hb q1 q2,q2⟩
  ·refine g.st _ _ _ _ _ _ h4 ⟨K.os,K.tape,K.output,K.size,K'.av,fun b o hb ho hx=>K.dat b o hb ho fun hA=>⟨id,by rw[hl]; rfl,hx hA⟩,K.nd⟩
def HR.re (H:@HR g ν h w):@HR (g.re g.G D Q M) ν h w:=@HR.mk (g.re g.G D Q M) ν h w (@HR.blk g ν h w H) (@HR.inj g ν h w H) (@HR.ghlt g ν h w H) (@HR.ghne g ν h w H)
def HR.er (H:@HR (g.re g.G D Q M) ν h w):@HR g ν h w:=@HR.mk g ν h w (@HR.blk (g.re g.G D Q M) ν h w H) (@HR.inj (g.re g.G D Q M) ν h w H) (@HR.ghlt (g.re g.G D Q M) ν h w H) (@HR.ghne (g.re g.G D Q M) ν h w H)
def mc.less {G':Nat→Prop} (hG:∀b,G' b→g.G b):mc g ν h w G' w:=⟨rfl,rfl,rfl,cG _,fun b _ hn hg=>hn (.inr (hG b hg)),fun b o hb _ _=>hb,fun b o hb _ _=>hb⟩
def mc.nds (hos:w'.os=w.os) (ht:w'.tape=w.tape) (ho:w'.output=w.output) (hs:w.heap.size≤w'.heap.size) (hk:∀(b:Nat) (o:Obj),w.heap[b]?=some o→NR o=true∨b<g.B→w'.heap[b]?=some o):mc g ν h w g.G w' :=
 ⟨hos,ht,ho,hs,fun b _ hn hg=>hn (.inr hg),fun b o hb hd _=>hk b o hb (.inl hd),fun b o hb _ hlt=>hk b o hb (.inr hlt)⟩
end
end Go.Am
end

noncomputable section
namespace Go.Am
variable [Ghost]
section
variable {ρ:Type} {ν ν':Nat→Value} {h h':List Blk} {w w':World} {P:Program}
def PR {v v':AV} (e:ag2 v=some v'):v'=v∧v.isTup=false:=by
 cases v<;>simp only[ag2,Option.some.injEq,reduceCtorEq] at e<;>exact⟨e.symm,rfl⟩
def abS {S:St} {a:Act} (H:Sim ν S a w) {rv:ResultVar} {v:AV} (e:XZ P S.h S.t rv=some v) :
 ∃u,(match rv with|.tmp t=>(pure (a.tmps.getD t undef):Sem Value)|.cell x t=>do loadVar t (←asAddr (a.tmps.getD x undef))).run P w=.ok u w∧VR2 ν S.h w v u:=by
 cases rv with
 |tmp i =>
  obtain⟨rfl,ht⟩:=PR e;have:=H.tmps i;rw[xp ht] at this;exact⟨_,rfl,this⟩
 |cell x t =>
  simp only[XZ] at e
  split at e<;>try (cases e; done)
  rename_i v' hl;obtain⟨rfl,ht⟩:=PR e;obtain⟨u,h1,h2⟩:=aey H.heap hl (H.tmps x);rw[xp ht] at h2;refine⟨u,?_,h2⟩;simp only[Instr.loadAt] at h1
  cases hx:a.tmps.getD x undef with
  |pointer p =>
   rw[hx] at h1
   cases p with
   |none=>simp[Instr.sureAddr] at h1
   |some ad =>
    show(do loadVar t (←asAddr (a.tmps.getD x undef)):Sem Value).run P w=_;rw[hx];simpa[Instr.sureAddr,asAddr] using h1
  |_=>rw[hx] at h1; simp[Instr.sureAddr] at h1
def PC {S:St} {a:Act} (H:Sim ν S a w):∀{rs:List ResultVar} {vs:List AV},Kb P S.h S.t rs=some vs →
 ∃us:List Value,(rs.mapM (m:=Sem) fun|.tmp t=>pure (a.tmps.getD t undef)|.cell x t=>do loadVar t (←asAddr (a.tmps.getD x undef))).run P w=.ok us w∧ý (VR2 ν S.h w) vs us
 |[],vs,e=>by cases e; exact⟨[],rfl,trivial⟩
 |rv::rs,vs,e=>by
  simp only[Kb] at e
  split at e<;>try (cases e; done)
  rename_i v hv
  split at e<;>try (cases e; done)
  rename_i vs' hvs;cases e;obtain⟨u,h1,h2⟩:=abS H hv;obtain⟨us,h3,h4⟩:=PC H hvs;refine⟨u::us,?_,h2,h4⟩;simp only[List.mapM_cons,Sem.run_bind,Sem.run_pure];rw[h1];simp only[Result.andThen_ok];rw[h3];rfl
def VR2.up {v:AV} {u:Value} (hv:VR2 ν h w v u):VR ν h w v u:=by
 cases ht:v.isTup with
 |true =>
  cases v<;>try cases ht
  exact hv.elim
 |false=>rw[xp ht]; exact hv
def PB {S:St} {a:Act} {fn:Func} {v:AV} (H:Sim ν S a w) (e:tr P fn S=some v):∃u,(results fn a.tmps).run P w=.ok u w∧VR ν S.h w v u:=by
 unfold tr at e
 cases hr:Kb P S.h S.t fn.results.toList with
 |none=>rw[hr] at e; cases e
 |some vs =>
  obtain⟨us,h1,h2⟩:=PC H hr
  have hrun:(results fn a.tmps).run P w=.ok (if h:us.toArray.size=1 then us.toArray[0] else .tuple us.toArray) w:=by
   unfold results;rw[Sem.run_bind,Array.mapM_eq_mapM_toList,Sem.run_map]
   erw [h1]
   rfl
  rw[hr] at e
  rcases vs with _|⟨x,_|⟨y,l⟩⟩<;>rcases us with _|⟨u,_|⟨u',m⟩⟩
  ·cases e; exact⟨_,hrun,⟨#[],by simp,trivial⟩⟩
  ·exact h2.elim
  ·exact h2.elim
  ·exact h2.elim
  ·cases e; exact⟨_,hrun,h2.1.up⟩
  ·exact h2.2.elim
  ·exact h2.elim
  ·exact h2.2.elim
  ·cases e; exact⟨_,hrun,⟨(u::u'::m).toArray,by simp,h2⟩⟩
def ý.lk {R:AV→Value→Prop} (hany:∀u,R .any u):∀{l:List AV} {m:List Value} (i:Nat),ý R l m→R (Am.lk l i) (m.getD i undef)
 |[],[],i,_=>hany _
 |_::_,_::_,0,h=>h.1
 |_::_,_::_,i+1,h=>by simpa[Am.lk] using ý.lk hany i h.2
 |[],_::_,_,h=>h.elim
 |_::_,[],_,h=>h.elim
def aa6 (h:Ghost.Q=none):fen=Fence.wide:=by
 unfold fen;rw[h];rfl
omit [Ghost] in
def sm {F:Fence} {n:Nat} {fn:Func} {tmps:Array Value} {R:Ending→World→Prop}:∀(ms:List Nat) (w:World),ms.Nodup→(∀k∈ms,w.heap[k]?=some (.deferred (some []))) →
 (∀w':World,w'.heap.size=w.heap.size→w'.os=w.os→w'.tape=w.tape→w'.output=w.output→(∀b,b∉ms→w'.heap[b]?=w.heap[b]?)→LeavesIn F n P fn tmps R [] .returning w')→LeavesInM F n P fn tmps R (ms.map mk1) .returning w
 |[],w,_,_,h=>h w rfl rfl rfl rfl fun _ _=>rfl
 |k::ms,w,hn,hk,h=>by
  refine⟨by simp,.inl ⟨k,_,rfl,run_takeDeferred (hk k (.head _)),?_⟩⟩;obtain⟨h1,h2⟩:=eM.1 hn;refine sm ms _ h2 (fun j hj=>?_) fun w' q1 q2 q3 q4 q5=>h w' (by rw[q1]; simp[World.putObj]) q2 q3 q4 fun b hb=>?_
  ·rw[World.putObj_heap_other (fun e=>h1 (by rw[←e]; exact hj))];exact hk j (.tail _ hj)
  ·rw[q5 b fun hm=>hb (.tail _ hm)];exact World.putObj_heap_other fun e=>hb (by rw[e]; exact .head _)
omit [Ghost] in
def wC {g:Ghost} {E:Env ρ} {call:List Nat→Bool→Nat→List AV→List Blk→(AV→List Blk→Option ρ)→Option ρ} {N:Nat} (hE:∀M,@md (g.re g.G [] none M) ρ E N call) (hD:∀M,@vf (g.re g.G [] none M) ρ E N call) {path:List Nat} (hpath:path.length+2=N) {f:Nat} {args:List AV} {K:AV→List Blk→Option ρ} {r:ρ}
 (hL:∀M fn c,E.P.funcs[f]?=some fn→fn.body=some c→∀x∈Ý 0 c,@sL (g.re g.G [] none M) ρ E path f x.1 x.2)
 (e:uU E call path f args h K=some r) {vals:List Value} (H:@HR g ν h w) (hB:g.B≤w.heap.size) (hargs:ý (@VR g ν h w) args vals) :
 (∃fn c,E.P.funcs[f]?=some fn∧fn.body=some c) ∧
 CallsIn Fence.wide 0 E.P f vals.toArray w fun e w'=>∃ν' h' v u,e=.returned u∧@VR g ν' h' w' v u∧@HR g ν' h' w'∧Ev h.length ν h w ν' h' w'∧h.length≤h'.length∧(∀j,j<h.length→lkB h j=.dead→lkB h' j=.dead)∧K v h'=some r:=by
 unfold uU at e
 split at e<;>try (cases e; done)
 rename_i fn hfn
 split at e<;>try (cases e; done)
 rename_i c hc;refine⟨⟨fn,c,hfn,hc⟩,?_⟩
 letI g':Ghost:=g.re g.G [] none w.heap.size
 refine callsIn_of_wp_marks hfn hc trivial ?_;have hlen:=hargs.length
 have hS:Sim ν {t:=args++List.replicate (fn.ntmps-args.length) .any,h:=h} {tmps:=vals.toArray++Array.replicate (fn.ntmps-vals.toArray.size) undef,defers:=[]} w:=by
  refine⟨⟨⟨[],rfl,gu,fun _ h=>(by cases h)⟩,fun l hl=>(by cases hl),hB,cG _⟩,by simp[hlen],fun i=>?_,HR.re H⟩;simp only[Qh];rcases dg i args.length with hi|hi
  ·have:=ý.lk (R:=@VR g ν h w) (fun _=>trivial) i hargs
   have hv:i<vals.length:=by omega
   have h2:(vals.toArray++Array.replicate (fn.ntmps-vals.toArray.size) undef).getD i undef=vals.getD i undef:=by
    simp[dW,fB,hv]
   rw[h2]; exact this
  ·rw[ag9 _ _ hi]; trivial
 have hgo:=uL (hE _) (hD _) hpath c 0 _ _ ν _ w (hL _ fn c hfn hc) e hS (cG _);rw[aa6 rfl] at hgo;refine wpIn_mono hgo fun x a' w' ha=>?_;obtain⟨ν',S',h1,h2,h3,h4,h5⟩:=ha
 have fin:∀v,tr E.P fn S'=some v→K v S'.h=some r→LeavesInM Fence.wide 0 E.P fn a'.tmps (fun e w'=>∃ν' h' v u,e=.returned u∧@VR g ν' h' w' v u∧@HR g ν' h' w'∧Ev h.length ν h w ν' h' w'∧h.length≤h'.length∧(∀j,j<h.length→lkB h j=.dead→lkB h' j=.dead)∧K v h'=some r) a'.defers .returning w':=by
  intro v hv hk;obtain⟨⟨ms,m1,m2,m3⟩,_,m4,m5⟩:=h1.defers;rw[show a'.defers=ms.map mk1 from m1.trans (dh _)];refine sm ms w' m2 (fun k hk=>(m3 k hk).1) fun w2 q1 q2 q3 q4 q5=>?_
  have hk2:∀(b:Nat) (o:Obj),w'.heap[b]?=some o→NR o=true∨b<g'.B→w2.heap[b]?=some o:=fun b o hb hd=>by
   have hbm:b∉ms:=fun hm=>by
    obtain⟨m6,m7⟩:=m3 b hm;rw[m6] at hb; cases hb;rcases hd with hd|hd
    ·cases hd
    ·have:g'.B≤w.heap.size:=hB;have m7:w.heap.size≤b:=m7;omega
   rw[q5 b hbm]; exact hb
  have KG:mc g' ν' S'.h w' g'.G w2:=mc.nds q2 q3 q4 (by omega) hk2;have sim2:Sim ν' S' {a' with defers:=[]} w2:=⟨⟨⟨[],rfl,gu,fun _ h=>(by cases h)⟩,fun l hl=>(by cases hl),hB,by rw[q1]; exact m5⟩,h1.len,fun i=>VR.step (g:=g') (D:=[]) (Q:=none) (M:=w.heap.size) KG (h1.tmps i),HR.step (g:=g') (D:=[]) (Q:=none) (M:=w.heap.size) KG (fun b hb=>by have:=h1.heap.ghlt b hb; omega) (fun b ⟨id,hl,ho⟩=>h1.heap.ghne id b hl ho) h1.heap⟩;obtain⟨u,r1,r2⟩:=PB sim2 hv;refine⟨u,r1,ν',S'.h,v,u,rfl,r2,HR.er sim2.heap,⟨q2.trans h2.os,q3.trans h2.tape,q4.trans h2.output,by rw[q1]; exact h2.size,fun b hb hn=>?_,h2.blk⟩,h3,h4,hk⟩;obtain⟨e1,e2⟩:=h2.keep b hb hn;refine⟨?_,e2⟩
  have hbm:b∉ms:=fun hm=>by
   have m7:w.heap.size≤b:=(m3 b hm).2;omega
  rw[q5 b hbm]; exact e1
 cases x with
 |normal =>
  simp only at h5
  split at h5<;>try (cases h5; done)
  exact fin _ ‹_› h5
 |ret =>
  simp only at h5
  split at h5<;>try (cases h5; done)
  exact fin _ ‹_› h5
 |exit id=>cases h5
 |goto l=>cases h5
 |panic ch=>cases h5
 |outgrown=>cases h5
def acY (P:Program) (f:Nat) (X:List Blk→List AV→(AV→List Blk→Option ρ)→Option ρ):Prop :=
 ∀(h:List Blk) (args:List AV) (K:AV→List Blk→Option ρ) (r:ρ),X h args K=some r→∀ν w vals,HR ν h w→ý (VR ν h w) args vals→FM P f ν h w vals K r
structure FH (E:Env ρ):Prop where
 pure:∀f p,E.pure f=some p→ki E.P f p
 sort:∀f,E.sort f=true→∀(h:List Blk) (x:AV) (K:AV→List Blk→Option ρ) (r:ρ),QP h x K=some r→∀ν w u,HR ν h w→VR ν h w x u→FM E.P f ν h w [u] K r
 compact:∀f,E.compact f=true→∀(h:List Blk) (x:AV) (K:AV→List Blk→Option ρ) (r:ρ),pw h x K=some r→∀ν w u,HR ν h w→VR ν h w x u→FM E.P f ν h w [u] K r
 plain : ∀ (f : Nat) (fn : Func), E.P.funcs[f]? = some fn → (fn.name == "runtime.NumGoroutine") = false
 clone:HD E.P E.clone
 joins:abz E
 yld:kh E
 ext:∀f X,E.ext f=some X→acY E.P f X
omit [Ghost] in
def afB {E:Env ρ} (n:Nat):(∀f p,E.pure f=some p→∀path draw args h K,ŵ E (n+1) path draw f args h K=QZ (draw&&!E.fz f) p h args K) ∧
 (∀f,E.pure f=none→E.sort f=true→∀path draw args h K,ŵ E (n+1) path draw f args h K=match args with|[x]=>QP h x K|_=>none) ∧
 (∀f,E.pure f=none→E.sort f=false→E.compact f=true→∀path draw args h K,ŵ E (n+1) path draw f args h K=match args with|[x]=>pw h x K|_=>none) :=
 ⟨fun f p hf path draw args h K=>by simp only[ŵ,hf],fun f hf hs path draw args h K=>by simp only[ŵ,hf,hs]; rfl,fun f hf hs hc path draw args h K=>by simp only[ŵ,hf,hs,hc]; rfl⟩
omit [Ghost] in
def qE {E:Env ρ} (hlib:∀[Ghost],kh E→FH E) (hdraw:∀[Ghost] L call,md E L call→vf E L call)
 (hloops:∀n,n≤10→(∀[Ghost],kh E→md E (22-2*n) (ŵ E n))→∀[Ghost],kh E→∀(path:List Nat) (f:Nat) (fn:Func) (c:Code),path.length+2=22-2*n→E.P.funcs[f]?=some fn→fn.body=some c→∀x∈Ý 0 c,sL E path f x.1 x.2) :
 ∀n,n≤10→∀[Ghost],kh E→md E (22-2*n) (ŵ E n):=by
 intro n
 induction n with
 |zero=>exact fun _ _ hy=>⟨.inl fun _ _ _ _ _ _=>rfl,fun path draw g args h K r _ e=>(by cases e),(hlib hy).plain,(hlib hy).clone,(hlib hy).joins,hy⟩
 |succ n ih =>
  intro hn g0 hy;have hE:∀[Ghost],kh E→md E (22-2*n) (ŵ E n):=ih (by omega);have hlib0:=hlib hy;refine⟨.inr (afB n),fun path draw g args h K r hp e ν w vals H hB hargs=>?_,hlib0.plain,hlib0.clone,hlib0.joins,hy⟩;simp only[ŵ] at e
  split at e
  ·rename_i gm hg;exact abV (hlib0.pure g gm hg) e H hargs
  ·split at e
   ·rename_i hs
    split at e<;>try (cases e; done)
    rename_i x;obtain⟨u,rfl,hu⟩:=hargs.one;exact hlib0.sort g hs h x K r e ν w u H hu
   ·split at e
    ·rename_i hc
     split at e<;>try (cases e; done)
     rename_i x;obtain⟨u,rfl,hu⟩:=hargs.one;exact hlib0.compact g hc h x K r e ν w u H hu
    ·split at e
     ·rename_i X hX;exact hlib0.ext g X hX h args K r e ν w vals H hargs
     split at e<;>try (cases e; done)
     split at e<;>try (cases e; done)
     have hpath:path.length+2=22-2*n:=by omega
     have hyM:∀M,@kh (g0.re g0.G [] none M) ρ E:=fun _=>hy;have hEM:∀M,@md (g0.re g0.G [] none M) ρ E (22-2*n) (ŵ E n):=fun M=>@hE (g0.re g0.G [] none M) (hyM M);exact wC hEM (fun M=>@hdraw (g0.re g0.G [] none M) _ _ (hEM M)) hpath (fun M fn c h1 h2=>@hloops n (by omega) hE (g0.re g0.G [] none M) (hyM M) path g fn c hpath h1 h2) e H hB hargs
end
end Go.Am
end

noncomputable section
namespace Go.Am
variable [Ghost]
section
variable {ρ:Type} {P:Program} {h h2:List Blk} {t t2:List AV}
def oz (h h2:List Blk) (v:AV):Prop:=∀id∈refs2 h v,lkB h2 id=lkB h id
def oz.one {v:AV} (hs:oz h h2 v):∀id∈refs1 v,lkB h2 id=lkB h id:=fun id hi=>hs id (by simp only[refs2,cM]; exact .inl hi)
def oz.refs {v:AV} (hs:oz h h2 v):refs2 h2 v=refs2 h v:=by
 simp only[refs2]
 have:∀(l:List Nat),(∀id∈l,lkB h2 id=lkB h id)→(l.flatMap fun id=>(No (lkB h2 id)).flatMap ĭ)=l.flatMap fun id=>(No (lkB h id)).flatMap ĭ:=by
  intro l
  induction l with
  |nil=>intro _; rfl
  |cons x l ih=>intro hl; simp only[dz]; rw[hl x (by simp),ih fun id hi=>hl id (by simp[hi])]
 rw[this _ hs.one]
def pE {v:AV} (hs:∀id∈ĭ v,lkB h2 id=lkB h id):ÿ h2 v=ÿ h v:=by
 cases v<;>first
  |rfl
  |(simp only[ÿ]; rw[hs _ (by simp[ĭ])])
def J3 {v:AV} (hs:∀id∈refs1 v,lkB h2 id=lkB h id):aaa h2 v=aaa h v:=by
 have one:(∀id∈ĭ v,lkB h2 id=lkB h id)→ÿ h2 v=ÿ h v:=pE
 cases v with
 |agg cs =>
  simp only[aaa,AV.agg.injEq];exact fo fun c hc=>pE fun id hi=>hs id (dk.2 ⟨c,hc,hi⟩)
 |fn f a b=>exact one fun _ hi=>by cases hi
 |_=>exact one hs
def acj {ty:TypeId} {a:AV} (hs:∀id∈refs1 a,lkB h2 id=lkB h id) (K:AV→Option ρ):Pe P h2 ty a K=Pe P h ty a K:=by
 cases a<;>first
  |rfl
  |(simp only[Pe]; rw[hs _ (by simp[refs1,ĭ])])
def XV {o:Nat} {a:AV} (hs:∀id∈refs1 a,lkB h2 id=lkB h id) (K:AV→Option ρ):AG h2 a o K=AG h a o K:=by
 cases a<;>first
  |rfl
  |(simp only[AG]; rw[hs _ (by simp[refs1,ĭ])])
def Y9 {sz:Nat} {a i:AV} (hs:∀id∈refs1 a,lkB h2 id=lkB h id) (K:AV→Option ρ):EU sz h2 a i K=EU sz h a i K:=by
 cases i<;>try rfl
 cases a<;>first
  |rfl
  |(simp only[EU]; rw[hs _ (by simp[refs1,ĭ])])
def aeH {d:Option TypeDesc} {a:AV} (hs:∀id∈refs1 a,lkB h2 id=lkB h id) (K:AV→Option ρ):ahb d h2 a K=ahb d h a K:=by
 unfold ahb
 split<;>cases a<;>first
  |rfl
  |(simp only[]; rw[hs _ (by simp[refs1,ĭ])])
def WG {ty:TypeId} {m i:AV} {ok:Bool} (hs:∀id∈refs1 m,lkB h2 id=lkB h id) (K:AV→Option ρ):s8 P h2 ty m i ok K=s8 P h ty m i ok K:=by
 unfold s8
 have:ÿ h2 m=ÿ h m:=pE fun id hi=>hs id (by cases m<;>first|exact hi|simp[ĭ] at hi)
 rw[this]
def HK {σ:Type} {sz:Nat} {a:AV} {lo hi:Option AV} (K:AV→List Blk→Option σ):qU sz h a lo hi false K=(qU sz h a lo hi false fun v _=>some v).bind fun v=>K v h:=by
 unfold qU;dsimp only
 (repeat' split)<;>rfl
def XT {sz:Nat} {a:AV} {lo hi:Option AV} (hs:∀id∈refs1 a,lkB h2 id=lkB h id):∃φ:Option AV,(∀{σ:Type} (K:AV→List Blk→Option σ),qU sz h a lo hi false K=φ.bind fun v=>K v h)∧∀{σ:Type} (K:AV→List Blk→Option σ),qU sz h2 a lo hi false K=φ.bind fun v=>K v h2:=by
 refine⟨qU sz h a lo hi false fun v _=>some v,fun K=>?_,fun K=>?_⟩
 ·exact HK K
 ·rw[HK K];congr 1
  cases a<;>first
   |rfl
   |(simp only[qU]; rw[hs _ (by simp[refs1,ĭ])])
def ap (nid:Nat) (ef:Option Blk) (h:List Blk):List Blk:=match ef with|none=>h|some B=>ð h nid B
def pbind {α σ σ2:Type} {R:Option σ→Option σ2→Prop} (h0:R none none) {x:Option α} {K:α→Option σ} {K2:α→Option σ2} (h:∀a,R (K a) (K2 a)):R (x.bind K) (x.bind K2):=by
 cases x with
 |none=>exact h0
 |some a=>exact h a
def pb2 {α σ σ2:Type} {R:Option σ→Option σ2→Prop} (h0:R none none) {x:Option α} {K:α→Option σ} {K2:α→Option σ2} {z:Option σ} {z2:Option σ2} (h1:z=x.bind K) (h2:z2=x.bind K2) (h:∀a,R (K a) (K2 a)):R z z2:=by
 subst h1 h2; exact pbind h0 h
def KC {l:List Operand} (hx:∀x∈l,ev t2 x=ev t x):l.map (ev t2)=l.map (ev t):=fo hx
def aej {l:List (Nat×Operand)} (hx:∀x∈l.map (·.2),ev t2 x=ev t x):(l.map fun p=>(p.1,ev t2 p.2))=l.map fun p=>(p.1,ev t p.2):=fo fun p hp=>by rw[hx p.2 (df.2 ⟨p,hp,rfl⟩)]
def PA {ty:Ty}:∀{ps:List (Nat×AV)} {n:Nat},(∀p∈ps,∀id∈refs1 p.2,lkB h2 id=lkB h id)→NP h2 ty n ps=NP h ty n ps
 |[],_,_=>rfl
 |(i,v)::ps,n,hp=>by
  simp only[NP];rw[J3 (hp (i,v) (by simp)),PA fun q hq=>hp q (by simp[hq])]
def aib {σ σ2:Type} {R:Option σ→Option σ2→Prop} {E:Env ρ} {o:Op} {nid:Nat} {K:AV→St→Option σ} {K2:AV→St→Option σ2} (h0:R none none) (hcl:cls E o≤1) (hcall:Ql o=false)
 (hx:∀x∈o.operands.toList,ev t2 x=ev t x) (hs:cls E o=1→∀x∈o.operands.toList,∀id∈refs1 (ev t x),lkB h2 id=lkB h id)
 (hK:∀v ef,(ef.isSome=true→Ē E.clone o=true)→R (K v {t:=t,h:=ap nid ef h}) (K2 v {t:=t2,h:=ap nid ef h2})) :
 R (opK P {t:=t,h:=h} nid false o K) (opK P {t:=t2,h:=h2} nid false o K2):=by
 have hn:∀v,R (K v {t:=t,h:=h}) (K2 v {t:=t2,h:=h2}):=fun v=>hK v none (by simp);have ha:Ē E.clone o=true→∀v B,R (K v {t:=t,h:=ð h nid B}) (K2 v {t:=t2,h:=ð h2 nid B}):=fun al v B=>hK v (some B) fun _=>al
 cases o with
 |move x =>
  have e:=hx x (by simp[Op.operands]);simp only[opK,e]; exact hn _
 |assign x =>
  have e:=hx x (by simp[Op.operands]);simp only[opK,e]; exact hn _
 |pick c a b =>
  have e1:=hx c (by simp[Op.operands]);have e2:=hx a (by simp[Op.operands]);have e3:=hx b (by simp[Op.operands]);simp only[opK,e1,e2,e3]
  (repeat' split)<;>first|exact h0|exact hn _
 |box _ x =>
  have e:=hx x (by simp[Op.operands]);simp only[opK,e]
  (repeat' split)<;>first|exact h0|exact ha rfl _ _
 |alloc e =>
  simp only[opK]
  (repeat' split)<;>first|exact h0|exact ha rfl _ _
 |build ty ps =>
  have e:=aej (l:=ps.toList) (t:=t) (t2:=t2) fun x hm=>hx x (by simpa[Op.operands] using hm);simp only[opK,e]
  (repeat' split)<;>first|exact h0|exact hn _
 |buildSlice ty n ps=>exact absurd hcl (by decide:¬2≤1)
 |load ty a =>
  have e:=hx a (by simp[Op.operands]);have hsa:=hs rfl a (by simp[Op.operands]);simp only[opK,e];rw[acj hsa];exact pb2 h0 (uI ..) (uI ..) fun v=>hn v
 |nilCheck x =>
  have e:=hx x (by simp[Op.operands]);have hsa:=hs rfl x (by simp[Op.operands]);simp only[opK,e]
  cases hv:ev t x with
  |optr id g i off =>
   have:=hsa id (by rw[hv]; simp[refs1,ĭ]);simp only[this]
   (repeat' split)<;>first|exact h0|exact hn _
  |_=>first|exact h0|exact hn _
 |binOp op ty x y yt =>
  have e1:=hx x (by simp[Op.operands]);have e2:=hx y (by simp[Op.operands]);simp only[opK,e1,e2];exact pb2 h0 (Ad ..) (Ad ..) fun v=>hn v
 |unOp op ty x =>
  have e:=hx x (by simp[Op.operands]);simp only[opK,e]
  (repeat' split)<;>first|exact h0|exact hn _|exact pb2 h0 (CT ..) (CT ..) fun v=>hn v
 |convert src dst x =>
  have e:=hx x (by simp[Op.operands]);simp only[opK,e]
  (repeat' split)<;>first|exact h0|exact hn _
 |makeFunc fn first captured =>
  have e1:=KC (l:=first.toList) (t:=t) (t2:=t2) fun x hm=>hx x (by simp[Op.operands]; exact .inl (by simpa using hm));have e2:=KC (l:=captured.toList) (t:=t) (t2:=t2) fun x hm=>hx x (by simp[Op.operands]; exact .inr (by simpa using hm));simp only[opK,e1,e2]
  (repeat' split)<;>first|exact h0|exact hn _
 |makeMap ty r =>
  simp only[opK]
  (repeat' split)<;>first|exact h0|exact ha rfl _ _
 |makeSlice ty l c =>
  have e:=hx l (by simp[Op.operands]);simp only[opK,e]
  (repeat' split)<;>first|exact h0|exact ha rfl _ _
 |slice ty x lo hi mx =>
  have e:=hx x (by simp[Op.operands]);have hsa:=hs rfl x (by simp[Op.operands])
  have e1:lo.map (ev t2)=lo.map (ev t):=by
   cases lo with
   |none=>rfl
   |some l=>simp[hx l (by simp[Op.operands])]
  have e2:hi.map (ev t2)=hi.map (ev t):=by
   cases hi with
   |none=>rfl
   |some l=>simp[hx l (by simp[Op.operands])]
  simp only[opK,e,e1,e2]
  (repeat' split)<;>first
   |exact h0
   | (obtain ⟨φ, q1, q2⟩ := XT hsa
      rw[q1,q2]
      exact pbind h0 fun v=>hn v)
 |fieldAddr ty x f =>
  have e:=hx x (by simp[Op.operands]);have hsa:=hs rfl x (by simp[Op.operands]);simp only[opK,e]
  (repeat' split)<;>first
   |exact h0
   |(rw[XV hsa]; exact pb2 h0 (pF ..) (pF ..) fun v=>hn v)
 |field ty x f =>
  have e:=hx x (by simp[Op.operands]);simp only[opK,e]
  (repeat' split)<;>first|exact h0|exact hn _
 |indexAddr ty x i =>
  have e1:=hx x (by simp[Op.operands]);have e2:=hx i (by simp[Op.operands]);have hsa:=hs rfl x (by simp[Op.operands]);simp only[opK,e1,e2]
  (repeat' split)<;>first
   |exact h0
   |exact hn _
   |exact pb2 h0 (iN ..) (iN ..) fun v=>hn _
   |(rw[Y9 hsa]; exact pb2 h0 (pK ..) (pK ..) fun v=>hn v)
 |index ty x i =>
  have e1:=hx x (by simp[Op.operands]);have e2:=hx i (by simp[Op.operands]);simp only[opK,e1,e2]
  (repeat' split)<;>first|exact h0|exact hn _|exact pb2 h0 (iN ..) (iN ..) fun v=>by(repeat' split)<;>first|exact h0|exact hn _
 |lookup ty m i ok =>
  have e1:=hx m (by simp[Op.operands]);have e2:=hx i (by simp[Op.operands]);have hsa:=hs rfl m (by simp[Op.operands]);simp only[opK,e1,e2];rw[WG hsa];exact pb2 h0 (mT ..) (mT ..) fun v=>hn v
 |extract x i =>
  have e:=hx x (by simp[Op.operands]);simp only[opK,e]
  (repeat' split)<;>first|exact h0|exact hn _
 |call c =>
  obtain⟨callee,args,tys⟩:=c
  cases callee with
  |builtin b =>
   have e:=KC (l:=args.toList) (t:=t) (t2:=t2) fun x hm=>hx x (by simpa[Op.operands,Call.operands] using hm);have hsa:cls E (.call ⟨.builtin b,args,tys⟩)=1→∀x∈args.toList,∀id∈refs1 (ev t x),lkB h2 id=lkB h id:=fun h1 x hm=>hs h1 x (by simpa[Op.operands,Call.operands] using hm);generalize hl:args.toList=l at e hsa;generalize hm:tys.toList=m
   cases b with
   |append=>simp[cls] at hcl
   |clear=>simp[cls] at hcl
   |len =>
    rcases l with _|⟨x,_|⟨y,l⟩⟩<;>rcases m with _|⟨ty,m⟩<;>simp only[opK,hl,hm]<;>try exact h0
    have e1:ev t2 x=ev t x:=by simpa using e
    rw[e1,aeH (hsa rfl x (by simp))];exact pb2 h0 (zI ..) (zI ..) fun v=>hn v
   |cap =>
    rcases l with _|⟨x,_|⟨y,l⟩⟩<;>rcases m with _|⟨ty,m⟩<;>simp only[opK,hl,hm]<;>try exact h0
    have e1:ev t2 x=ev t x:=by simpa using e
    rw[e1]
    (repeat' split)<;>first|exact h0|exact hn _
   |min =>
    rcases l with _|⟨x,l⟩<;>simp only[opK,hl,hm]<;>try exact h0
    simp only[eE,List.cons.injEq] at e;rw[e.1,e.2];exact pb2 h0 (iF _ _ _ _) (iF _ _ _ _) fun v=>hn v
   |max =>
    rcases l with _|⟨x,l⟩<;>simp only[opK,hl,hm]<;>try exact h0
    simp only[eE,List.cons.injEq] at e;rw[e.1,e.2];exact pb2 h0 (iF _ _ _ _) (iF _ _ _ _) fun v=>hn v
   |_=>simp only[opK]; (repeat' split)<;>first|exact h0|contradiction
  |value f=>cases hcall
  |invoke r m=>exact h0
 |store=>simp[cls] at hcl
 |mapUpdate=>simp[cls] at hcl
 |_=>exact h0
def aps (ups:List (Nat×Blk)) (h:List Blk):List Blk:=ups.foldl (fun h p=>ð h p.1 p.2) h
def ZJ {id:Nat} {B:Blk}:aps [(id,B)] h=ð h id B:=rfl
def m9 {u v:List (Nat×Blk)}:aps (u++v) h=aps v (aps u h):=by simp[aps]
def uJ:∀(ups:List (Nat×Blk)) (h:List Blk),(aps ups h).length=h.length
 |[],_=>rfl
 |p::ups,h=>by show(aps ups (ð h p.1 p.2)).length=_; rw[uJ ups,Ñ]
def QL {id:Nat}:∀{ups:List (Nat×Blk)} {h:List Blk},(∀p∈ups,p.1≠id)→lkB (aps ups h) id=lkB h id
 |[],_,_=>rfl
 |p::ups,h,hn=>by
  show lkB (aps ups (ð h p.1 p.2)) id=_;rw[QL fun q hq=>hn q (by simp[hq]),Ó _ (Ne.symm (hn p (by simp)))]
def Ae {id:Nat}:∀{ups:List (Nat×Blk)} {h h2:List Blk},h2.length=h.length→lkB h2 id=lkB h id→lkB (aps ups h2) id=lkB (aps ups h) id
 |[],_,_,_,he=>he
 |p::ups,h,h2,hl,he=>Ae (ups:=ups) (h:=ð h p.1 p.2) (h2:=ð h2 p.1 p.2) (by simp[Ñ,hl]) (by simp only[wo,hl,he])
def aaY {v:AV} (hs:∀id∈ĭ v,lkB h2 id=lkB h id):∃ups,qG h v=aps ups h∧qG h2 v=aps ups h2∧∀p∈ups,p.1∈ĭ v:=by
 have no:qG h v=h→qG h2 v=h2→∃ups,qG h v=aps ups h∧qG h2 v=aps ups h2∧∀p∈ups,p.1∈ĭ v:=fun h1 h2'=>⟨[],h1,h2',by simp⟩
 cases v with
 |own id g =>
  have e:=hs id (by simp[ĭ])
  cases hl:lkB h id with
  |row t g fz xs =>
   rw[hl] at e;exact⟨[(id,.row t g true xs)],by simp only[qG,hl]; rfl,by simp only[qG,e]; rfl,by simp[ĭ]⟩
  |_=>rw[hl] at e; exact no (by simp only[qG,hl]) (by simp only[qG,e])
 |sub id g lo n =>
  have e:=hs id (by simp[ĭ])
  cases hl:lkB h id with
  |row t g fz xs =>
   rw[hl] at e;exact⟨[(id,.row t g true xs)],by simp only[qG,hl]; rfl,by simp only[qG,e]; rfl,by simp[ĭ]⟩
  |_=>rw[hl] at e; exact no (by simp only[qG,hl]) (by simp only[qG,e])
 |_=>exact no rfl rfl
def Tt:∀{cs:List AV} {h h2:List Blk},h2.length=h.length→(∀c∈cs,∀id∈ĭ c,lkB h2 id=lkB h id)→∃ups,AC h cs=aps ups h∧AC h2 cs=aps ups h2∧∀p∈ups,∃c∈cs,p.1∈ĭ c
 |[],_,_,_,_=>⟨[],rfl,rfl,by simp⟩
 |c::cs,h,h2,hl,hs=>by
  obtain⟨u,h1,h2',h3⟩:=aaY (hs c (by simp));obtain⟨v,h4,h5,h6⟩:=Tt (cs:=cs) (h:=qG h c) (h2:=qG h2 c) (by rw[mX,mX,hl]) (fun d hd id hi=>by rw[h1,h2']; exact Ae hl (hs d (by simp[hd]) id hi));refine⟨u++v,by simp only[AC]; rw[h4,h1,m9],by simp only[AC]; rw[h5,h2',m9],fun p hp=>?_⟩;rcases cM.1 hp with hp|hp
  ·exact⟨c,by simp,h3 p hp⟩
  ·obtain⟨d,hd,hi⟩:=h6 p hp;exact⟨d,by simp[hd],hi⟩
def Zj {v:AV} (hl:h2.length=h.length) (hs:∀id∈refs1 v,lkB h2 id=lkB h id):∃ups,frz h v=aps ups h∧frz h2 v=aps ups h2∧∀p∈ups,p.1∈refs1 v:=by
 have one:(∀id∈ĭ v,lkB h2 id=lkB h id)→∃ups,qG h v=aps ups h∧qG h2 v=aps ups h2∧∀p∈ups,p.1∈ĭ v:=aaY
 cases v with
 |agg cs =>
  obtain⟨u,h1,h2',h3⟩:=Tt (cs:=cs) hl fun c hc id hi=>hs id (dk.2 ⟨c,hc,hi⟩);exact⟨u,h1,h2',fun p hp=>dk.2 (h3 p hp)⟩
 |fn f a b =>
  obtain⟨u,h1,h2',h3⟩:=one fun _ hi=>by cases hi
  exact⟨u,h1,h2',fun p hp=>by cases h3 p hp⟩
 |_=>exact one hs
def HJ {ty:Ty} {x:AV} (hs:∀id∈refs1 x,lkB h2 id=lkB h id):Ú (.slice ty) [ÿ h2 x]=Ú (.slice ty) [ÿ h x]:=by
 have:ÿ h2 x=ÿ h x:=pE fun id hi=>hs id (by cases x<;>first|exact hi|simp[ĭ] at hi)
 rw[this]
def acJ {v:AV} {vs:List AV} (hc:ś v=some vs):∀c∈vs,∀id∈ĭ c,id∈refs1 v:=by
 intro c hm id hi
 cases v<;>simp only[ś,Option.some.injEq,reduceCtorEq] at hc<;>subst hc
 all_goals first
  |(simp only[cP] at hm; subst hm; exact hi)
  |(simp only[cP] at hm; subst hm; cases hi; done)
  |exact dk.2 ⟨c,hm,hi⟩
def Um {σ σ2:Type} {R:Option σ→Option σ2→Prop} {ty:TypeId} {a v:AV} {K:List Blk→Option σ} {K2:List Blk→Option σ2} (h0:R none none) (hlen:h2.length=h.length)
 (s1:∀id∈refs1 a,lkB h2 id=lkB h id) (s2:∀id∈refs1 v,lkB h2 id=lkB h id) (hK:∀ups,(∀p∈ups,p.1∈refs1 a∨p.1∈refs1 v)→R (K (aps ups h)) (K2 (aps ups h2))):R (wK P h ty a v K) (wK P h2 ty a v K2):=by
 unfold wK
 split<;>try exact h0
 rename_i vs hvs
 split<;>try exact h0
 split<;>try exact h0
 ·rename_i id off;have e3:=s1 id (by simp[refs1,ĭ]);rw[e3]
  (repeat' split)<;>first
   |exact h0
   |exact hK [(id,_)] fun p hp=>.inl (by simp only[cP] at hp; subst hp; simp[refs1,ĭ])
 ·rename_i id g i off;have e3:=s1 id (by simp[refs1,ĭ]);obtain⟨u,f1,f2,f3⟩:=Zj (v:=v) hlen s2
  have e4:lkB (frz h2 v) id=lkB (frz h v) id:=by rw[f1,f2]; exact Ae hlen e3
  have e5:vs.map (ÿ h2)=vs.map (ÿ h):=fo fun c hc=>pE fun id hi=>s2 id (acJ hvs c hc id hi);rw[e4,e5]
  (repeat' split)<;>first
   |exact h0
   | (rw [f1, f2]
      refine hK (u++[(id,_)]) (fun p hp=>?_) |> fun q=>(by simpa only[m9,ZJ] using q)
      rcases cM.1 hp with hp|hp
      ·exact .inr (f3 p hp)
      ·exact .inl (by simp only[cP] at hp; subst hp; simp[refs1,ĭ]))
 ·rename_i id g i j;have e3:=s1 id (by simp[refs1,ĭ]);rw[e3]
  (repeat' split)<;>first
   |exact h0
   |exact hK [(id,_)] fun p hp=>.inl (by simp only[cP] at hp; subst hp; simp[refs1,ĭ])
def aaW:∀{ps:List (Nat×AV)} {h h2:List Blk},h2.length=h.length→(∀p∈ps,∀id∈refs1 p.2,lkB h2 id=lkB h id)→∃ups,frzA h ps=aps ups h∧frzA h2 ps=aps ups h2∧∀p∈ups,∃q∈ps,p.1∈refs1 q.2
 |[],_,_,_,_=>⟨[],rfl,rfl,by simp⟩
 |(i,v)::ps,h,h2,hl,hs=>by
  obtain⟨u,h1,h2',h3⟩:=Zj (v:=v) hl (hs (i,v) (by simp));obtain⟨w,h4,h5,h6⟩:=aaW (ps:=ps) (h:=frz h v) (h2:=frz h2 v) (by rw[h1,h2',uJ,uJ,hl]) (fun q hq id hi=>by rw[h1,h2']; exact Ae hl (hs q (by simp[hq]) id hi));refine⟨u++w,by simp only[frzA]; rw[h4,h1,m9],by simp only[frzA]; rw[h5,h2',m9],fun p hp=>?_⟩;rcases cM.1 hp with hp|hp
  ·exact⟨(i,v),by simp,h3 p hp⟩
  ·obtain⟨q,hq,hi⟩:=h6 p hp;exact⟨q,by simp[hq],hi⟩
def ai8 {σ σ2:Type} {R:Option σ→Option σ2→Prop} {E:Env ρ} {o:Op} {nid:Nat} {eat:Bool} {K:AV→St→Option σ} {K2:AV→St→Option σ2} (h0:R none none) (hcl:cls E o=2) (hcall:Ql o=false) (hlen:h2.length=h.length) (heat:∀ty n ps,o=.buildSlice ty n ps→eat=false)
 (hx:∀x∈o.operands.toList,ev t2 x=ev t x) (hs:∀x∈o.operands.toList,∀id∈refs1 (ev t x),lkB h2 id=lkB h id)
 (hK:∀v ups,(∀p∈ups,(p.1=nid∧Ē E.clone o=true)∨∃x∈o.operands.toList,p.1∈refs1 (ev t x))→R (K v {t:=t,h:=aps ups h}) (K2 v {t:=t2,h:=aps ups h2})) :
 R (opK P {t:=t,h:=h} nid eat o K) (opK P {t:=t2,h:=h2} nid eat o K2):=by
 cases o with
 |buildSlice ty n ps =>
  obtain rfl:=heat ty n ps rfl;have e:=aej (l:=ps.toList) (t:=t) (t2:=t2) fun x hm=>hx x (by simpa[Op.operands] using hm)
  have hsp:∀p∈ps.toList.map (fun p=>(p.1,ev t p.2)),∀id∈refs1 p.2,lkB h2 id=lkB h id:=fun p hp=>by
   obtain⟨q,hq,rfl⟩:=df.1 hp;exact hs q.2 (by simpa[Op.operands] using⟨q.1,by simpa using hq⟩)
  have hr:∀ty n,NP h2 ty n (ps.toList.map fun p=>(p.1,ev t p.2))=NP h ty n (ps.toList.map fun p=>(p.1,ev t p.2)):=fun ty n=>PA hsp;obtain⟨u,f1,f2,f3⟩:=aaW hlen hsp;simp only[opK,e,hr,f1,f2]
  (repeat' split)<;>first
   |exact h0
   | (refine hK _ (u ++ [(nid, _)]) (fun p hp => ?_) |> fun q => (by simpa only [m9, ZJ] using q)
      rcases cM.1 hp with hp|hp
      ·obtain⟨q,hq,hi⟩:=f3 p hp;obtain⟨q',hq',rfl⟩:=df.1 hq;exact .inr ⟨q'.2,by simpa[Op.operands] using⟨q'.1,by simpa using hq'⟩,hi⟩
      ·exact .inl ⟨by simp only[cP] at hp; subst hp; rfl,rfl⟩)
 |store ty a v =>
  have e1:=hx a (by simp[Op.operands]);have e2:=hx v (by simp[Op.operands]);have s1:=hs a (by simp[Op.operands]);have s2:=hs v (by simp[Op.operands]);have ma:∀{id:Nat},id∈refs1 (ev t a)→∃x∈(Op.store ty a v).operands.toList,id∈refs1 (ev t x):=fun hi=>⟨a,by simp[Op.operands],hi⟩;have mv:∀{id:Nat},id∈refs1 (ev t v)→∃x∈(Op.store ty a v).operands.toList,id∈refs1 (ev t x):=fun hi=>⟨v,by simp[Op.operands],hi⟩;simp only[opK,e1,e2]
  cases eat with
  |false =>
   simp only;exact Um h0 hlen s1 s2 fun ups hu=>hK _ ups fun p hp=>.inr ((hu p hp).elim ma mv)
  |true =>
   simp only
   cases hv:ev t v with
   |sub id g lo n =>
    rw[hv] at s2 mv;have e3:=s2 id (by simp[refs1,ĭ]);simp only[e3]
    split<;>try exact h0
    split<;>try exact h0
    refine Um h0 (by simp[Ñ,hlen]) (fun j hj=>?_) (fun j hj=>?_) fun ups hu=>hK _ ((id,_)::ups) fun p hp=>.inr ?_
    ·exact Ae (ups:=[(id,_)]) hlen (s1 j hj)
    ·simp only[refs1,ĭ,cP] at hj;subst hj;exact Ae (ups:=[(_,_)]) hlen e3
    ·rcases cN.1 hp with rfl|hp
     ·exact mv (by simp[refs1,ĭ])
     ·rcases hu p hp with hu|hu
      ·exact ma hu
      ·exact mv (by simpa[refs1,ĭ] using hu)
   |_=>exact h0
 |mapUpdate ty m i x =>
  have e1:=hx m (by simp[Op.operands]);have e2:=hx i (by simp[Op.operands]);have e3:=hx x (by simp[Op.operands]);have s1:=hs m (by simp[Op.operands]);have s3:=hs x (by simp[Op.operands]);obtain⟨u,f1,f2,f3⟩:=Zj (v:=ev t x) hlen s3;simp only[opK,e1,e2,e3];unfold kP;rw[J3 s3]
  split<;>try exact h0
  split<;>try exact h0
  rename_i id hm;rw[hm] at s1;rw[s1 id (by simp[refs1,ĭ])]
  (repeat' split)<;>first
   |exact h0
   | (rw [f1, f2]
      refine hK _ (u++[(id,_)]) (fun p hp=>?_) |> fun q=>(by simpa only[m9,ZJ] using q)
      rcases cM.1 hp with hp|hp
      ·exact .inr ⟨x,by simp[Op.operands],f3 p hp⟩
      ·exact .inr ⟨m,by simp[Op.operands],by simp only[cP] at hp; subst hp; rw[hm]; simp[refs1,ĭ]⟩)
 |call c =>
  obtain⟨callee,args,tys⟩:=c
  cases callee with
  |builtin b =>
   have e:=KC (l:=args.toList) (t:=t) (t2:=t2) fun x hm=>hx x (by simpa[Op.operands,Call.operands] using hm);have hsa:∀x∈args.toList,∀id∈refs1 (ev t x),lkB h2 id=lkB h id:=fun x hm=>hs x (by simpa[Op.operands,Call.operands] using hm)
   have hmem:∀x∈args.toList,x∈(Op.call ⟨.builtin b,args,tys⟩).operands.toList:=fun x hm=>by simpa[Op.operands,Call.operands] using hm
   generalize hl:args.toList=l at e hsa hmem;generalize hm:tys.toList=m
   cases b with
   |append =>
    rcases l with _|⟨x,_|⟨y,_|⟨z,l⟩⟩⟩<;>rcases m with _|⟨ty,_|⟨ty',_|⟨ty'',m⟩⟩⟩<;>simp only[opK,hl,hm]<;>try exact h0
    simp only[eE,List.cons.injEq,fp,and_true] at e;rw[e.1,e.2];have sx:=hsa x (by simp);have sy:=hsa y (by simp);have hnew:∀v B,R (K v {t:=t,h:=ð h nid B}) (K2 v {t:=t2,h:=ð h2 nid B}):=fun v B=>hK v [(nid,B)] fun p hp=>.inl ⟨by simp only[cP] at hp; subst hp; rfl,rfl⟩
    (repeat' split)<;>first
     |exact h0
     | (unfold zm
        simp only[HJ sy]
        split<;>try exact h0
        split<;>try exact h0
        split<;>try exact h0
        split<;>try exact h0
        split<;>try exact h0
        ·split<;>first|exact h0|exact hnew _ _
        ·rename_i id g hv;rw[hv] at sx;rw[sx id (by simp[refs1,ĭ])]
         (repeat' split)<;>first
          |exact h0
          |exact hK _ [(id,_)] fun p hp=>.inr ⟨x,hmem x (by simp),by simp only[cP] at hp; subst hp; rw[hv]; simp[refs1,ĭ]⟩)
     | (rename_i id2 g2 hdp
        rw[hdp] at sy;have my:∃q∈(Op.call ⟨.builtin .append,args,tys⟩).operands.toList,id2∈refs1 (ev t q):=⟨y,hmem y (by simp),by rw[hdp]; simp[refs1,ĭ]⟩;unfold W7;rw[sy id2 (by simp[refs1,ĭ])]
        split<;>try exact h0
        split<;>try exact h0
        split<;>try exact h0
        split<;>try exact h0
        split<;>try exact h0
        ·split<;>first
          |exact h0
          |exact hK _ [(id2,_),(nid,_)] fun p hp=>by
             simp only[cN,f7,or_false] at hp;rcases hp with rfl|rfl
             ·exact .inr my
             ·exact .inl ⟨rfl,rfl⟩
        ·rename_i id g hv;rw[hv] at sx;have mx:∃q∈(Op.call ⟨.builtin .append,args,tys⟩).operands.toList,id∈refs1 (ev t q):=⟨x,hmem x (by simp),by rw[hv]; simp[refs1,ĭ]⟩;rw[sx id (by simp[refs1,ĭ])]
         (repeat' split)<;>first
          |exact h0
          |exact hK _ [(id2,_),(id,_)] fun p hp=>by
             simp only[cN,f7,or_false] at hp;rcases hp with rfl|rfl
             ·exact .inr my
             ·exact .inr mx)
     | (unfold HE
        (repeat' split)<;>first|exact h0|exact hnew _ _)
   |clear =>
    rcases l with _|⟨x,_|⟨y,l⟩⟩<;>rcases m with _|⟨ty,_|⟨ty',m⟩⟩<;>simp only[opK,hl,hm]<;>try exact h0
    simp only[eE,List.cons.injEq,fp,and_true] at e;rw[e];have sx:=hsa x (by simp)
    split<;>try exact h0
    unfold Io
    split<;>try exact h0
    ·exact hK _ [] (by simp)
    ·rename_i id g lo n _ hv _;rw[hv] at sx;rw[sx id (by simp[refs1,ĭ])]
     (repeat' split)<;>first
      |exact h0
      |exact hK _ [(id,_)] fun p hp=>.inr ⟨x,hmem x (by simp),by simp only[cP] at hp; subst hp; rw[hv]; simp[refs1,ĭ]⟩
   |_=>simp[cls] at hcl
  |value f=>cases hcall
  |invoke r m=>simp[cls] at hcl
 |_=>simp[cls] at hcl
end
end Go.Am
end
