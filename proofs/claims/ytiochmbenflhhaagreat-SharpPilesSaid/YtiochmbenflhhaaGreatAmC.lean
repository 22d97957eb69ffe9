/- lemmas -/
import Derived.Test.YtiochmbenflhhaaGreatAmB
import Derived.ProofKit
import Derived.OpenShut
import Derived.WalkKit
import Derived.SizedLaws
import Derived.Carry
set_option linter.all false
set_option linter.unusedSectionVars false
set_option linter.unusedVariables false
set_option linter.unusedSimpArgs false
noncomputable section
namespace Go.Am
variable [ø]
section
variable {ρ:Type} {P:Program} {h h2:List Blk} {t t2:List AV}
def afK {ty:Ty} {a:AV} (hs:oG h h2 a):aoQ h2 ty a=aoQ h ty a:=by
 have hsn:aiv h2 a=aiv h a:=Pk hs.one
 cases ty with
 |ptr u =>
  cases a with
  |box id off =>
   cases off with
   |zero =>
    have h1:lkB h2 id=lkB h id:=hs.one id (by simp[refs1,Ķ]);simp only[aoQ,h1]
    cases hl:lkB h id with
    |cells cs =>
     simp only
     have:cs.map (ă h2)=cs.map (ă h):=fM fun c hc=>qd fun i hi=>hs i (by
      simp only[refs2,dk,dK]
      exact .inr ⟨id,by simp[refs1,Ķ],by rw[hl]; exact⟨c,hc,hi⟩⟩)
     rw[this]
    |_=>rfl
   |succ n=>rfl
  |eptr t' x off=>cases off<;>rfl
  |_=>rfl
 |_=>cases a with
  |dp id g =>
   have h1:lkB h2 id=lkB h id:=hs.one id (by simp[refs1,Ķ]);simp only[aoQ,h1]
  |_=>simp only[aoQ,hsn]
def XD:∀{l:List Ty} {ty:Ty} {as:List AV},(∀a∈as,oG h h2 a)→abv h2 l ty as=abv h l ty as
 |[],ty,[],_=>rfl
 |[],ty,[a],hs=>by simp only[abv]; exact afK (hs a (by simp))
 |[],ty,_::_::_,_=>rfl
 |u::l,ty,[],_=>rfl
 |u::l,ty,a::as,hs=>by
  simp only[abv];rw[afK (hs a (by simp)),XD fun b hb=>hs b (by simp[hb])]
def XE {l:List Ty} {as:List AV} (hs:∀a∈as,oG h h2 a):JF h2 l as=JF h l as:=by
 cases l with
 |nil=>rfl
 |cons ty l=>exact XD hs
def ahG {E:Env ρ} {o:Op} (hx:∀x∈o.operands.toList,ev t2 x=ev t x):SY E t2 o=SY E t o:=by
 unfold SY
 split
 ·rename_i ty n ps;rw[dX];simp only[dO];refine forall_congr' fun p=>forall_congr' fun hm=>?_;rw[hx p.2 (by simpa[Op.operands] using⟨p.1,by simpa using hm⟩)]
 ·rename_i s args tys;rw[hx (.tmp s) (by simp[Op.operands,Call.operands])]
 ·rfl
def SX {E:Env ρ} {o:Op} (hx:∀x∈o.operands.toList,ev t2 x=ev t x) (hs:1≤cls E o→∀x∈o.operands.toList,oG h h2 (ev t x)) :
 mr E {t:=t2,h:=h2} o=mr E {t:=t,h:=h} o:=by
 unfold mr
 split
 ·rename_i hc;have hc1:1≤cls E o:=f6 hc
  have h1:(o.operands.toList.all fun x=>(refs2 h2 (ev t2 x)).all fun id=>!am4 (lkB h2 id))=o.operands.toList.all fun x=>(refs2 h (ev t x)).all fun id=>!am4 (lkB h id):=by
   rw[dX];simp only[dO];refine forall_congr' fun x=>forall_congr' fun hm=>?_;rw[hx x hm,(hs hc1 x hm).refs]
   exact forall_congr' fun id=>forall_congr' fun hi=>by rw[hs hc1 x hm id hi]
  exact congr (congrArg and h1) (ahG hx)
 ·rfl
def pM {E:Env ρ} {o:Op} (hc:1≤cls E o) {id:Nat}:id∈CX E {t:=t,h:=h} o↔∃x∈o.operands.toList,id∈refs2 h (ev t x):=by
 unfold CX;have:Nat.ble 1 (cls E o)=true:=Nat.ble_eq_true_of_le hc;simp only[this,List.mem_flatMap]
def I3 {E:Env ρ} {o:Op} (hc:cls E o=0) {S:St}:CX E S o=[]:=by
 unfold CX; rw[hc]
def Loc (E:Env ρ) (o:Op) (nid:Nat) (t:List AV) (h:List Blk) (t2:List AV) (h2:List Blk) (z z2:(AV→St→Option ρ)→Option ρ):Prop :=
 ∃φ:Option (AV×List (Nat×Blk)),(∀r,φ=some r→∀p∈r.2,(p.1=nid∧đ E.clone o=true)∨(cls E o=2∧p.1∈CX E {t:=t,h:=h} o)) ∧
  (∀K,z K=φ.bind fun r=>K r.1 {t:=t,h:=aps r.2 h})∧∀K,z2 K=φ.bind fun r=>K r.1 {t:=t2,h:=aps r.2 h2}
def Loc.no {E:Env ρ} {o:Op} {nid:Nat} {z z2:(AV→St→Option ρ)→Option ρ} (h1:∀K,z K=none) (h2':∀K,z2 K=none):Loc E o nid t h t2 h2 z z2 :=
 ⟨none,by simp,fun K=>by rw[h1]; rfl,fun K=>by rw[h2']; rfl⟩
def anH {σ σ2:Type} {R:Option σ→Option σ2→Prop} {g nid:Nat} {fz:Bool} {x:AV} {K:AV→St→Option σ} {K2:AV→St→Option σ2} (h0:R none none) (hs:∀id∈refs1 x,lkB h2 id=lkB h id)
 (hK:∀v ef,R (K v {t:=t,h:=ap nid ef h}) (K2 v {t:=t2,h:=ap nid ef h2})):R (Bm P g fz {t:=t,h:=h} nid x K) (Bm P g fz {t:=t2,h:=h2} nid x K2):=by
 simp only[Bm,Md hs]
 (repeat' split)<;>first|exact h0|exact hK _ none|exact hK _ (some _)
def efU (nid:Nat):Option Blk→List (Nat×Blk)
 |none=>[]
 |some B=>[(nid,B)]
def ajH {nid:Nat} {ef:Option Blk}:ap nid ef h=aps (efU nid ef) h:=by cases ef<;>rfl
def aru {E:Env ρ} {call:List Nat→Bool→Nat→List AV→List Blk→(AV→List Blk→Option ρ)→Option ρ} {fid:Nat} {path:List Nat} {nid:Nat} {o:Oper}
 (hpe:aoG E call) (hcl:cls E o.op≤2) (hlen:h2.length=h.length) (hx:∀x∈o.op.operands.toList,ev t2 x=ev t x) (hs:1≤cls E o.op→∀x∈o.op.operands.toList,oG h h2 (ev t x)) :
 Loc E o.op nid t h t2 h2 (iH E call fid path true {t:=t,h:=h} nid o) (iH E call fid path true {t:=t2,h:=h2} nid o):=by
 have hwf:=SX hx hs
 cases hw:mr E {t:=t,h:=h} o.op with
 |false=>exact .no (fun K=>by simp[iH,hw]) (fun K=>by simp[iH,hwf,hw])
 |true =>
  rw[hw] at hwf
  have plain:(∀f args tys,o.op≠.call ⟨.value f,args,tys⟩)→Loc E o.op nid t h t2 h2 (iH E call fid path true {t:=t,h:=h} nid o) (iH E call fid path true {t:=t2,h:=h2} nid o):=by
   intro hno
   have hr:∀S:St,mr E S o.op=true→∀K,iH E call fid path true S nid o K=opK E.P S nid (aa9 E true fid o) o.op K:=fun S hS K=>by
    unfold iH;simp only[hS,Bool.not_true,Bool.and_false,Bool.false_and]
   have hcall:Xe o.op=false:=by
    cases ho:o.op<;>try rfl
    rename_i c;obtain⟨f,args,tys⟩:=c
    cases f<;>first|rfl|exact absurd ho (hno _ _ _)
   have fin:(∃φ:Option (AV×List (Nat×Blk)),(∀r,φ=some r→∀p∈r.2,(p.1=nid∧đ E.clone o.op=true)∨(cls E o.op=2∧p.1∈CX E {t:=t,h:=h} o.op)) ∧
    opK E.P {t:=t,h:=h} nid (aa9 E true fid o) o.op (fun v S=>some (v,S))=φ.map (fun r=>(r.1,({t:=t,h:=aps r.2 h}:St)))∧opK E.P {t:=t2,h:=h2} nid (aa9 E true fid o) o.op (fun v S=>some (v,S))=φ.map fun r=>(r.1,({t:=t2,h:=aps r.2 h2}:St))) →
    Loc E o.op nid t h t2 h2 (iH E call fid path true {t:=t,h:=h} nid o) (iH E call fid path true {t:=t2,h:=h2} nid o):=by
    rintro⟨φ,h1,h2',h3⟩;refine⟨φ,h1,fun K=>?_,fun K=>?_⟩
    ·rw[hr _ hw,Yj]; unfold opR; rw[h2']; cases φ<;>rfl
    ·rw[hr _ hwf,Yj]; unfold opR; rw[h3]; cases φ<;>rfl
   apply fin
   by_cases h2c:cls E o.op=2
   ·refine arF (P:=E.P) (E:=E) (o:=o.op) (nid:=nid) (σ:=AV×St) (σ2:=AV×St) (K:=fun v S=>some (v,S)) (K2:=fun v S=>some (v,S))
     (R:=fun x y=>∃φ:Option (AV×List (Nat×Blk)),(∀r,φ=some r→∀p∈r.2,(p.1=nid∧đ E.clone o.op=true)∨(cls E o.op=2∧p.1∈CX E {t:=t,h:=h} o.op))∧x=φ.map (fun r=>(r.1,({t:=t,h:=aps r.2 h}:St)))∧y=φ.map fun r=>(r.1,({t:=t2,h:=aps r.2 h2}:St)))
     ⟨none,by simp,rfl,rfl⟩ h2c hcall hlen hx (fun x hm=>(hs (by omega) x hm).one) fun v ups hu=>⟨some (v,ups),fun r hr' p hp=>?_,rfl,rfl⟩
    cases hr';rcases hu p hp with hu|⟨x,hm,hi⟩
    ·exact .inl hu
    ·exact .inr ⟨h2c,(pM (by omega)).2 ⟨x,hm,by simp only[refs2,dk]; exact .inl hi⟩⟩
   ·have hea:aa9 E true fid o=false:=by
     unfold aa9
     cases ho:o.op<;>first|rfl|(exfalso; apply h2c; rw[ho]; rfl)
    rw[hea]
    have hb:∀ty n ps,o.op=.buildSlice ty n ps→ps.toList.all (fun p=>!vW (ev t p.2))=true:=fun ty n ps ho=>by
     have h1:=hw;unfold mr at h1;rw[ho] at h1;have hb1:Nat.ble 1 (cls E (.buildSlice ty n ps))=true:=rfl;simp only[hb1,Bool.and_eq_true,SY] at h1;exact h1.2
    refine aqW (P:=E.P) (E:=E) (o:=o.op) (nid:=nid) (σ:=AV×St) (σ2:=AV×St) (K:=fun v S=>some (v,S)) (K2:=fun v S=>some (v,S))
     (R:=fun x y=>∃φ:Option (AV×List (Nat×Blk)),(∀r,φ=some r→∀p∈r.2,(p.1=nid∧đ E.clone o.op=true)∨(cls E o.op=2∧p.1∈CX E {t:=t,h:=h} o.op))∧x=φ.map (fun r=>(r.1,({t:=t,h:=aps r.2 h}:St)))∧y=φ.map fun r=>(r.1,({t:=t2,h:=aps r.2 h2}:St)))
     ⟨none,by simp,rfl,rfl⟩ (by omega) hcall hx (fun h1 x hm=>(hs (by omega) x hm).one) hb fun v ef hef=>⟨some (v,efU nid ef),fun r hr' p hp=>?_,by rw[ajH]; rfl,by rw[ajH]; rfl⟩
    cases hr'
    cases ef with
    |none=>cases hp
    |some B =>
     simp only[efU,dt] at hp;subst hp;exact .inl ⟨rfl,hef rfl⟩
  cases ho:o.op with
  |call c =>
   obtain⟨f,args,tys⟩:=c
   cases f with
   |value f =>
    cases f with
    |func g =>
     rw[ho] at hx hs hcl;have hxa:∀x∈args.toList,ev t2 x=ev t x:=fun x hm=>hx x (by simp[Op.operands,Call.operands]; exact .inr (by simpa using hm))
     have hmem:∀x∈args.toList,x∈(Op.call ⟨.value (.func g),args,tys⟩).operands.toList:=fun x hm=>by simp[Op.operands,Call.operands]; exact .inr (by simpa using hm)
     have he:=PR hxa
     cases hc:E.clone g with
     |true =>
      have hcls:cls E (.call ⟨.value (.func g),args,tys⟩)=1:=by simp[cls,hc]
      have hr:∀(S:St),mr E S o.op=true→∀K,iH E call fid path true S nid o K=match args.toList with
       |[x]=>Bm E.P g (E.eat fid (o.dst.getD 0)) S nid (ev S.t x) K
       |_=>none:=fun S hS K=>by
       unfold iH;simp only[hS,Bool.not_true,Bool.and_false];rw[ho];simp only[ev,hc,akw,Bool.and_self];rfl
      generalize hl:args.toList=l at hr he hxa hmem;rcases l with _|⟨x,_|⟨y,l⟩⟩
      ·exact .no (fun K=>hr _ hw K) (fun K=>hr _ hwf K)
      ·have hsx:=(hs (by omega) x (hmem x (by simp))).one;have e1:=hxa x (by simp)
       obtain⟨φ,h1,h2',h3⟩:=anH (P:=E.P) (g:=g) (fz:=E.eat fid (o.dst.getD 0)) (nid:=nid) (t:=t) (t2:=t2) (σ:=AV×St) (σ2:=AV×St) (K:=fun v S=>some (v,S)) (K2:=fun v S=>some (v,S))
        (R:=fun x y=>∃φ:Option (AV×List (Nat×Blk)),(∀r,φ=some r→∀p∈r.2,p.1=nid)∧x=φ.map (fun r=>(r.1,({t:=t,h:=aps r.2 h}:St)))∧y=φ.map fun r=>(r.1,{t:=t2,h:=aps r.2 h2}))
        ⟨none,by simp,rfl,rfl⟩ hsx fun v ef=>⟨some (v,efU nid ef),fun r hr' p hp=>by
         cases hr'
         cases ef with
         |none=>cases hp
         |some B=>simp only[efU,dt] at hp; rw[hp],by rw[ajH]; rfl,by rw[ajH]; rfl⟩
       refine⟨φ,fun r hr' p hp=>.inl ⟨h1 r hr' p hp,by simpa[đ] using hc⟩,fun K=>?_,fun K=>?_⟩
       ·rw[hr _ hw];simp only;rw[LS,h2']
        cases φ<;>rfl
       ·rw[hr _ hwf];simp only[e1];rw[LS,h3]
        cases φ<;>rfl
      ·exact .no (fun K=>hr _ hw K) (fun K=>hr _ hwf K)
     |false =>
      have hr:∀(S:St),mr E S o.op=true→∀K,iH E call fid path true S nid o K=call path true g (args.toList.map (ev S.t)) S.h fun v h=>K v {t:=S.t,h:=h}:=fun S hS K=>by
       unfold iH;simp only[hS,Bool.not_true,Bool.and_false];rw[ho];simp only[ev,hc,akw,Bool.false_and,List.nil_append,List.append_nil]
      rcases hpe with hpe|⟨hpe,hse,hce⟩
      ·exact .no (fun K=>by rw[hr _ hw]; exact hpe _ _ _ _ _ _) (fun K=>by rw[hr _ hwf]; exact hpe _ _ _ _ _ _)
      cases hp:E.pure g with
      |none =>
       have h1c:1≤cls E (.call ⟨.value (.func g),args,tys⟩):=by simp only[cls,hc,hp]; cases E.sort g<;>cases E.compact g<;>simp
       have row:∀(f:List Blk→AV→(AV→List Blk→Option ρ)→Option ρ),(∀S K,mr E S o.op=true→iH E call fid path true S nid o K=match args.toList.map (ev S.t) with|[x]=>f S.h x fun v h=>K v {t:=S.t,h:=h}|_=>none)→cls E (.call ⟨.value (.func g),args,tys⟩)=2 →
        (∀x,(∀id∈refs1 x,lkB h2 id=lkB h id)→∃φ:Option (AV×List (Nat×Blk)),(∀r,φ=some r→∀p∈r.2,p.1∈refs1 x)∧(∀K,f h x K=φ.bind fun r=>K r.1 (aps r.2 h))∧∀K,f h2 x K=φ.bind fun r=>K r.1 (aps r.2 h2)) →
        Loc E (.call ⟨.value (.func g),args,tys⟩) nid t h t2 h2 (iH E call fid path true {t:=t,h:=h} nid o) (iH E call fid path true {t:=t2,h:=h2} nid o):=by
        intro f hf h2c hloc;generalize hl:args.toList=l at hf he hmem;rcases l with _|⟨x,_|⟨y,l⟩⟩
        ·exact .no (fun K=>hf _ K hw) (fun K=>hf _ K hwf)
        ·obtain⟨φ,q1,q2,q3⟩:=hloc (ev t x) (hs h1c x (hmem x (by simp))).one;refine⟨φ,fun r hr' p hp=>.inr ⟨h2c,(pM h1c).2 ⟨x,hmem x (by simp),by simp only[refs2,dk]; exact .inl (q1 r hr' p hp)⟩⟩,fun K=>?_,fun K=>?_⟩
         ·rw[hf _ K hw];exact q2 _
         ·rw[hf _ K hwf];simp only[he];exact q3 _
        ·exact .no (fun K=>hf _ K hw) (fun K=>hf _ K hwf)
       cases hso:E.sort g with
       |true =>
        refine row XQ (fun S K hS=>(hr S hS K).trans (hse g hp hso path true _ S.h _)) (by simp[cls,hc,hp,hso]) fun x hx1=>?_;unfold XQ
        cases x with
        |own id g =>
         have e3:=hx1 id (by simp[refs1,Ķ]);simp only[e3]
         cases lkB h id with
         |row ty g' fz xs =>
          cases fz<;>simp only
          ·split
           ·split
            ·split
             ·exact⟨some (_,[(id,_)]),by simp[refs1,Ķ],fun K=>rfl,fun K=>rfl⟩
             ·exact⟨none,by simp,fun K=>rfl,fun K=>rfl⟩
            ·exact⟨none,by simp,fun K=>rfl,fun K=>rfl⟩
           ·exact⟨none,by simp,fun K=>rfl,fun K=>rfl⟩
          ·exact⟨none,by simp,fun K=>rfl,fun K=>rfl⟩
         |_=>exact⟨none,by simp,fun K=>rfl,fun K=>rfl⟩
        |nils=>exact⟨some (_,[]),by simp,fun K=>rfl,fun K=>rfl⟩
        |_=>exact⟨none,by simp,fun K=>rfl,fun K=>rfl⟩
       |false =>
        cases hco:E.compact g with
        |true =>
         refine row pS (fun S K hS=>(hr S hS K).trans (hce g hp hso hco path true _ S.h _)) (by simp[cls,hc,hp,hso,hco]) fun x hx1=>?_;unfold pS
         cases x with
         |own id g =>
          have e3:=hx1 id (by simp[refs1,Ķ]);simp only[e3]
          cases lkB h id with
          |row ty g' fz xs =>
           cases fz<;>simp only
           ·split
            ·split
             ·split
              ·exact⟨some (_,[(id,_)]),by simp[refs1,Ķ],fun K=>rfl,fun K=>rfl⟩
              ·exact⟨none,by simp,fun K=>rfl,fun K=>rfl⟩
             ·exact⟨none,by simp,fun K=>rfl,fun K=>rfl⟩
            ·exact⟨none,by simp,fun K=>rfl,fun K=>rfl⟩
           ·exact⟨none,by simp,fun K=>rfl,fun K=>rfl⟩
          |_=>exact⟨none,by simp,fun K=>rfl,fun K=>rfl⟩
         |nils=>exact⟨some (_,[]),by simp,fun K=>rfl,fun K=>rfl⟩
         |_=>exact⟨none,by simp,fun K=>rfl,fun K=>rfl⟩
        |false=>simp[cls,hc,hp,hso,hco] at hcl
      |some p =>
       have h1c:1≤cls E (.call ⟨.value (.func g),args,tys⟩):=by simp only[cls,hc,hp]; cases E.fz g<;>simp
       have hsa:∀a∈args.toList.map (ev t),oG h h2 a:=fun a ha=>by
        obtain⟨x,hm,rfl⟩:=dZ.1 ha;exact hs h1c x (hmem x hm)
       obtain⟨u,f1,f2,f3⟩:=aa0 (cs:=(args.toList.map (ev t)).flatMap mu) hlen fun c hcm id hi=>by
        obtain⟨a,ha,hca⟩:=dK.1 hcm;refine(hsa a ha).one id ?_
        cases a<;>first
         |(simp only[mu,dt] at hca; subst hca; exact hi)
         |(simp only[mu,dt] at hca; subst hca; cases hi; done)
         |exact dK.2 ⟨c,hca,hi⟩
       have f3':∀q∈u,∃x∈args.toList,q.1∈refs2 h (ev t x):=fun q hq=>by
        obtain⟨c,hcm,hi⟩:=f3 q hq;obtain⟨a,ha,hca⟩:=dK.1 hcm;obtain⟨x,hm,rfl⟩:=dZ.1 ha;refine⟨x,hm,?_⟩;simp only[refs2,dk];left;generalize ev t x=a at hca
        cases a<;>first
         |(simp only[mu,dt] at hca; subst hca; exact hi)
         |(simp only[mu,dt] at hca; subst hca; cases hi; done)
         |exact dK.2 ⟨c,hca,hi⟩
       have hpk:∀(b:Bool) (h':List Blk),JF h' p.ts (args.toList.map (ev t))=JF h p.ts (args.toList.map (ev t))→BW h' ((args.toList.map (ev t)).flatMap mu)=aps u h'→∀(K:AV→List Blk→Option ρ),
        XZ b p h' (args.toList.map (ev t)) K=(match JF h p.ts (args.toList.map (ev t)) with
        |some x=>(p.F x).bind fun y=>match Pq (afY p.rs y) with
         |true=>some (afY p.rs y,[])
         |false=>match (args.toList.map (ev t)).all (fun a=>!vW a) with
          |true=>some (afY p.rs y,[])
          |false=>match b||!(args.toList.map (ev t)).all ams with
           |true=>none
           |false=>some (afY p.rs y,u)
        |none=>none).bind fun r=>K r.1 (aps r.2 h'):=fun b h' ha hf K=>by
        unfold XZ Ã;rw[ha,hf]
        cases JF h p.ts (args.toList.map (ev t)) with
        |none=>rfl
        |some x =>
         simp only
         cases p.F x with
         |none=>rfl
         |some y =>
          simp only[eX]
          cases Pq (afY p.rs y) with
          |true=>rfl
          |false=>cases(args.toList.map (ev t)).all (fun a=>!vW a) with
           |true=>rfl
           |false=>cases b||!(args.toList.map (ev t)).all ams<;>rfl
       refine⟨_,?_,fun K=>(hr _ hw K).trans ((hpe g p hp path true _ h _).trans (hpk (true&&!E.fz g) h rfl f1 _)),fun K=>(hr _ hwf K).trans (by simp only[he]; exact(hpe g p hp path true _ h2 _).trans (hpk (true&&!E.fz g) h2 (XE hsa) f2 _))⟩;intro r hr1 q hq
       have hcase:r.2=[]∨(E.fz g=true∧r.2=u):=by
        cases hA:JF h p.ts (args.toList.map (ev t)) with
        |none=>rw[hA] at hr1; cases hr1
        |some x =>
         rw[hA] at hr1;simp only at hr1
         cases hF:p.F x with
         |none=>rw[hF] at hr1; cases hr1
         |some y =>
          rw[hF] at hr1;simp only[eX] at hr1
          split at hr1
          ·cases hr1; exact .inl rfl
          ·split at hr1
           ·cases hr1; exact .inl rfl
           ·split at hr1
            ·cases hr1
            ·rename_i hb;cases hr1;simp only[dW,Bool.or_eq_false_iff,fB] at hb;exact .inr ⟨hb.1,rfl⟩
       rcases hcase with hz|⟨hfz,hz⟩
       ·rw[hz] at hq; cases hq
       ·rw[hz] at hq;obtain⟨x,hm,hi⟩:=f3' q hq;exact .inr ⟨by simp[cls,hc,hp,hfz],(pM h1c).2 ⟨x,hmem x hm,hi⟩⟩
    |tmp s =>
     rw[ho] at hx hs hcl
     obtain⟨g,hg⟩:∃g,E.hint s=some g:=by
      cases hh:E.hint s with
      |none=>simp[cls,hh] at hcl
      |some g=>exact⟨g,rfl⟩
     have hpf:(E.pure g).isSome=true∧E.fz g=false:=by
      simp only[cls,hg] at hcl
      split at hcl
      ·rename_i hb; simpa using hb
      ·omega
     obtain⟨hpg,hfz⟩:=hpf;obtain⟨p,hp⟩:=gR.1 hpg
     have hcls:cls E (.call ⟨.value (.tmp s),args,tys⟩)=1:=by simp[cls,hg,hp,hfz]
     have hmem:∀x∈args.toList,x∈(Op.call ⟨.value (.tmp s),args,tys⟩).operands.toList:=fun x hm=>by simp[Op.operands,Call.operands]; exact .inr (by simpa using hm)
     have hms:Operand.tmp s∈(Op.call ⟨.value (.tmp s),args,tys⟩).operands.toList:=by simp[Op.operands,Call.operands]
     have he:=PR fun x hm=>hx x (hmem x hm)
     have hnf:SY E t (.call ⟨.value (.tmp s),args,tys⟩)=true:=by
      have h1:=hw;unfold mr at h1;rw[ho] at h1
      have hb1:Nat.ble 1 (cls E (.call ⟨.value (.tmp s),args,tys⟩))=true:=by rw[hcls]; rfl
      simp only[hb1,dh] at h1;exact h1.2
     simp only[SY,hg] at hnf
     split at hnf<;>try (cases hnf; done)
     rename_i g' fa fb hfn;simp only[dh,dO] at hnf;obtain⟨hgg,hna,hnb⟩:=hnf;have hgg:g'=g:=du hgg;subst hgg;have hfn2:=(hx _ hms).trans hfn
     have hr:∀(S:St),mr E S o.op=true→ev S.t (.tmp s)=.fn (.func g') fa fb→∀K,iH E call fid path true S nid o K=call path true g' (fa++(args.toList.map (ev S.t)++fb)) S.h fun v h=>K v {t:=S.t,h:=h}:=fun S hS hSf K=>by
      unfold iH;simp only[hS,Bool.not_true,Bool.and_false];rw[ho];simp only[hSf,akw,Bool.and_false]
     rcases hpe with hpe|⟨hpe,hse,hce⟩
     ·exact .no (fun K=>by rw[hr _ hw hfn]; exact hpe _ _ _ _ _ _) (fun K=>by rw[hr _ hwf hfn2]; exact hpe _ _ _ _ _ _)
     have hcap:∀v,(v∈fa∨v∈fb)→arH v=true→oG h h2 v:=fun v hv hn id hi=>by
      refine hs (by omega) _ hms id ?_;rw[hfn]
      have e1:Go.Am.refs1 v=al4 v:=by cases v<;>first|rfl|cases hn
      simp only[refs2,dk,dK,e1] at hi ⊢
      have hsub:∀i,i∈al4 v→i∈Go.Am.refs1 (.fn (.func g') fa fb):=fun i hi=>by
       simp only[Go.Am.refs1,dk,dK];exact hv.imp (fun h=>⟨v,h,hi⟩) fun h=>⟨v,h,hi⟩
      rcases hi with hi|⟨i,hi,q⟩
      ·exact .inl (hsub _ hi)
      ·exact .inr ⟨i,hsub _ hi,q⟩
     have hsa:∀a∈fa++(args.toList.map (ev t)++fb),oG h h2 a:=fun a ha=>by
      rcases dk.1 ha with ha|ha
      ·exact hcap a (.inl ha) (hna a ha)
      ·rcases dk.1 ha with ha|ha
       ·obtain⟨x,hm,rfl⟩:=dZ.1 ha;exact hs (by omega) x (hmem x hm)
       ·exact hcap a (.inr ha) (hnb a ha)
     have hpk:∀(h':List Blk),JF h' p.ts (fa++(args.toList.map (ev t)++fb))=JF h p.ts (fa++(args.toList.map (ev t)++fb))→∀(K:AV→List Blk→Option ρ),
      XZ (true&&!E.fz g') p h' (fa++(args.toList.map (ev t)++fb)) K=(match JF h p.ts (fa++(args.toList.map (ev t)++fb)) with
      |some x=>(p.F x).bind fun y=>match Pq (afY p.rs y) with
       |true=>some (afY p.rs y,([]:List (Nat×Blk)))
       |false=>match (fa++(args.toList.map (ev t)++fb)).all (fun a=>!vW a) with
        |true=>some (afY p.rs y,[])
        |false=>none
      |none=>none).bind fun r=>K r.1 (aps r.2 h'):=fun h' ha K=>by
      unfold XZ Ã;rw[ha,hfz]
      cases JF h p.ts (fa++(args.toList.map (ev t)++fb)) with
      |none=>rfl
      |some x =>
       simp only
       cases p.F x with
       |none=>rfl
       |some y =>
        simp only[eX]
        cases Pq (afY p.rs y) with
        |true=>rfl
        |false=>cases(fa++(args.toList.map (ev t)++fb)).all (fun a=>!vW a)<;>rfl
     refine⟨_,?_,fun K=>(hr _ hw hfn K).trans ((hpe g' p hp path true _ h _).trans (hpk h rfl _)),fun K=>(hr _ hwf hfn2 K).trans (by simp only[he]; exact(hpe g' p hp path true _ h2 _).trans (hpk h2 (XE hsa) _))⟩;intro r hr1 q hq;exfalso
     cases hA:JF h p.ts (fa++(args.toList.map (ev t)++fb)) with
     |none=>rw[hA] at hr1; cases hr1
     |some x =>
      rw[hA] at hr1;simp only at hr1
      cases hF:p.F x with
      |none=>rw[hF] at hr1; cases hr1
      |some y =>
       rw[hF] at hr1;simp only[eX] at hr1
       split at hr1
       ·cases hr1; cases hq
       ·split at hr1<;>cases hr1
        cases hq
    |_=>rw[ho] at hcl; simp[cls] at hcl
   |_=>exact ho▸plain fun _ _ _ hf=>by rw[ho] at hf; cases hf
  |_=>exact ho▸plain fun _ _ _ hf=>by rw[ho] at hf; cases hf
def aro {l:List Operand} (ht:∀s∈VZ l,lk t2 s=lk t s):∀x∈l,ev t2 x=ev t x:=by
 induction l with
 |nil=>intro x hm; cases hm
 |cons y l ih =>
  intro x hm;rcases dm.1 hm with rfl|hm
  ·cases x with
   |tmp i=>exact ht i (by simp[VZ])
   |_=>rfl
  ·refine ih (fun s hs=>ht s ?_) x hm
   cases y<;>simp[VZ,hs]
def aim:∀(t:List AV) {d d':Nat} (v v':AV),d≠d'→upd (upd t d v) d' v'=upd (upd t d' v') d v
 |[],_,_,_,_,_=>rfl
 |_::_,0,0,_,_,h=>absurd rfl h
 |_::_,0,_+1,_,_,_=>rfl
 |_::_,_+1,0,_,_,_=>rfl
 |x::t,d+1,d'+1,v,v',h=>by simp only[upd]; rw[aim t v v' (by omega)]
def abS:∀(t:List Blk) {d d':Nat} (v v':Blk),d≠d'→č (č t d v) d' v'=č (č t d' v') d v
 |[],_,_,_,_,_=>rfl
 |_::_,0,0,_,_,h=>absurd rfl h
 |_::_,0,_+1,_,_,_=>rfl
 |_::_,_+1,0,_,_,_=>rfl
 |x::t,d+1,d'+1,v,v',h=>by simp only[č]; rw[abS t v v' (by omega)]
def Pm {da db:Option Nat} (hd:∀x,da=some x→db≠some x) (va vb:AV):ÿ (ÿ t da va) db vb=ÿ (ÿ t db vb) da va:=by
 cases da with
 |none=>rfl
 |some x=>cases db with
  |none=>rfl
  |some y=>exact aim t va vb fun h=>hd x rfl (by rw[h])
def yR {d:Option Nat} {s:Nat} (hd:d≠some s) (v:AV):lk (ÿ t d v) s=lk t s:=by
 cases d with
 |none=>rfl
 |some x =>
  simp only[ÿ,amS];rw[if_neg];rintro⟨rfl,_⟩;exact hd rfl
def ajG:∀{u v:List (Nat×Blk)} {h:List Blk},(∀p∈u,∀q∈v,p.1≠q.1)→aps v (aps u h)=aps u (aps v h)
 |[],_,_,_=>rfl
 |p::u,v,h,hn=>by
  show aps v (aps u (č h p.1 p.2))=aps u (č (aps v h) p.1 p.2);rw[ajG fun q hq=>hn q (by simp[hq])];congr 1
  have:∀(v:List (Nat×Blk)) (h:List Blk),(∀q∈v,p.1≠q.1)→aps v (č h p.1 p.2)=č (aps v h) p.1 p.2:=by
   intro v
   induction v with
   |nil=>intro h _; rfl
   |cons q v ih =>
    intro h hq;show aps v (č (č h p.1 p.2) q.1 q.2)=č (aps v (č h q.1 q.2)) p.1 p.2;rw[abS _ _ _ (hq q (by simp)),ih _ fun r hr=>hq r (by simp[hr])]
  exact this v h (hn p (by simp))
def Κ (all:List Oper) (o:Oper) (t:List AV):Option Bool :=
 match o.guard with
 |none=>some true
 |some (j,want)=>match lk t (pK all j) with
  |.bool b=>some (b==want)
  |.und=>some false
  |_=>none
def yL (E:Env ρ) (all:List Oper) (o:Oper) (S:St):List Nat :=
 match Κ all o S.t with
 |some true=>CX E S o.op
 |_=>[]
def yw (E:Env ρ) (call:List Nat→Bool→Nat→List AV→List Blk→(AV→List Blk→Option ρ)→Option ρ) (fid:Nat) (path:List Nat) (all:List Oper) (bef:List Nat) (acc:List (Nat×List Nat)) (i nid:Nat) (o:Oper) (S:St) (K:List Nat→St→Option ρ):Option ρ :=
 match Κ all o S.t==some true&&!chk E all bef acc i (CX E S o.op) with
 |true=>none
 |false=>qq E call fid path true all i nid o S (K (yL E all o S))
def amf {E:Env ρ} {call:List Nat→Bool→Nat→List AV→List Blk→(AV→List Blk→Option ρ)→Option ρ} {fid:Nat} {path:List Nat} {all:List Oper} {bef:List Nat} {o:Oper} {os:List Oper} {i nid:Nat} {acc:List (Nat×List Nat)} {S:St} {K:St→Option ρ} :
 amg E call fid path all bef (o::os) i nid acc S K=yw E call fid path all bef acc i nid o S fun F S'=>amg E call fid path all bef os (i+1) (bif đ E.clone o.op then nid+1 else nid) ((i,F)::acc) S' K:=by
 have hself:∀d b,lk S.t d=.bool b→({t:=upd S.t d (.bool b),h:=S.h}:St)=S:=fun d b hb=>by rw[←hb,F2]
 have htself:∀d b,lk S.t d=.bool b→upd S.t d (.bool b)=S.t:=fun d b hb=>by rw[←hb,F2]
 simp only[amg,yw,qq,yL,Κ]
 cases o.guard with
 |none=>cases chk E all bef acc i (CX E S o.op)<;>rfl
 |some g =>
  obtain⟨j,want⟩:=g;simp only
  cases hb:lk S.t (pK all j)<;>try rfl
  rename_i b;have h1:=hself _ b hb;have h2:=htself _ b hb
  cases b<;>cases want<;>simp only[h1,h2]<;>first
   |rfl
   |(cases chk E all bef acc i (CX E S o.op)<;>rfl)
def I4 {E:Env ρ} {o:Op} (hx:∀x∈o.operands.toList,ev t2 x=ev t x) (hs:1≤cls E o→∀x∈o.operands.toList,oG h h2 (ev t x)):CX E {t:=t2,h:=h2} o=CX E {t:=t,h:=h} o:=by
 unfold CX
 split
 ·rename_i hc;have hc1:1≤cls E o:=f6 hc
  have:∀l:List Operand,(∀x∈l,x∈o.operands.toList)→(l.flatMap fun x=>refs2 h2 (ev t2 x))=l.flatMap fun x=>refs2 h (ev t x):=by
   intro l
   induction l with
   |nil=>intro _; rfl
   |cons x l ih =>
    intro hl;simp only[ez];rw[hx x (hl x (by simp)),(hs hc1 x (hl x (by simp))).refs,ih fun y hy=>hl y (by simp[hy])]
  exact this _ fun _ h=>h
 ·rfl
def Mo {all:List Oper} {o:Oper} (ht:∀s∈iY all o,lk t2 s=lk t s):∀x∈o.op.operands.toList,ev t2 x=ev t x:=aro fun s hm=>ht s (by simp only[iY,dk]; exact .inr hm)
def ju {all:List Oper} {o:Oper} (ht:∀s∈iY all o,lk t2 s=lk t s):Κ all o t2=Κ all o t:=by
 unfold Κ
 cases hg:o.guard with
 |none=>rfl
 |some g =>
  obtain⟨j,want⟩:=g;simp only;rw[ht _ (by simp[iY,hg])]
def aoX {E:Env ρ} {o:Op} (hc:1≤cls E o) (hw:mr E {t:=t,h:=h} o=true):∀id∈CX E {t:=t,h:=h} o,lkB h id≠.dead:=fun id hi hd=>by
 obtain⟨x,hm,hi⟩:=(pM hc).1 hi;unfold mr at hw;have hb1:Nat.ble 1 (cls E o)=true:=Nat.ble_eq_true_of_le hc;simp only[hb1,Bool.and_eq_true,List.all_eq_true] at hw;have:=hw.1 x hm id hi;rw[hd] at this;cases this
def OG {E:Env ρ} {call:List Nat→Bool→Nat→List AV→List Blk→(AV→List Blk→Option ρ)→Option ρ} {fid:Nat} {path:List Nat} {all:List Oper} {i nid:Nat} {o:Oper} (r0:ρ)
 (hpe:aoG E call) (hcl:cls E o.op≤2) (hlen:h2.length=h.length) (ht:∀s∈iY all o,lk t2 s=lk t s)
 (hs:Κ all o t=some true→1≤cls E o.op→∀x∈o.op.operands.toList,oG h h2 (ev t x)) :
 ∃φ:Option (AV×List (Nat×Blk)),(∀r,φ=some r→∀p∈r.2,(p.1=nid∧đ E.clone o.op=true)∨(cls E o.op=2∧p.1∈yL E all o {t:=t,h:=h})) ∧
  (∀r,φ=some r→∀id∈yL E all o {t:=t,h:=h},lkB h id≠.dead) ∧
  (∀K,qq E call fid path true all i nid o {t:=t,h:=h} K=φ.bind fun r=>K {t:=ÿ t o.dst r.1,h:=aps r.2 h}) ∧
  ∀K,qq E call fid path true all i nid o {t:=t2,h:=h2} K=φ.bind fun r=>K {t:=ÿ t2 o.dst r.1,h:=aps r.2 h2}:=by
 have hx:=Mo (t:=t) (t2:=t2) (o:=o) ht;have hwt:=ju (t:=t) (t2:=t2) (o:=o) ht
 cases hw:Κ all o t with
 |none =>
  rw[hw] at hwt
  have:∀(S:St),Κ all o S.t=none→∀K,qq E call fid path true all i nid o S K=none:=fun S hS K=>by
   unfold Κ at hS;unfold qq
   cases hg:o.guard with
   |none=>rw[hg] at hS; cases hS
   |some g =>
    obtain⟨j,want⟩:=g;rw[hg] at hS;simp only at hS ⊢
    cases hb:lk S.t (pK all j)<;>rw[hb] at hS<;>first|rfl|cases hS
  exact⟨none,by simp,by simp,fun K=>this _ hw K,fun K=>this _ hwt K⟩
 |some b =>
  cases b with
  |false =>
   rw[hw] at hwt
   have:∀(S:St),Κ all o S.t=some false→∀K,qq E call fid path true all i nid o S K=K {t:=ÿ S.t o.dst .und,h:=S.h}:=fun S hS K=>by
    unfold Κ at hS;unfold qq
    cases hg:o.guard with
    |none=>rw[hg] at hS; cases hS
    |some g =>
     obtain⟨j,want⟩:=g;rw[hg] at hS;simp only at hS ⊢
     cases hb:lk S.t (pK all j)<;>rw[hb] at hS<;>first|rfl|(cases hS; done)|skip
     simp only[Option.some.injEq] at hS ⊢;rw[hS]
   refine⟨some (.und,[]),?_,?_,fun K=>this _ hw K,fun K=>this _ hwt K⟩
   ·intro r hr p hp;cases hr;cases hp
   ·intro r hr id hi;simp only[yL,hw] at hi;cases hi
  |true =>
   rw[hw] at hwt
   have hst:∀(S:St),Κ all o S.t=some true→∀K,qq E call fid path true all i nid o S K=iH E call fid (path++[i]) true S nid o fun v S=>K {t:=ÿ S.t o.dst v,h:=S.h}:=fun S hS K=>by
    unfold Κ at hS;unfold qq
    cases hg:o.guard with
    |none=>rfl
    |some g =>
     obtain⟨j,want⟩:=g;rw[hg] at hS;simp only at hS ⊢
     cases hb:lk S.t (pK all j)<;>rw[hb] at hS<;>first|(cases hS; done)|skip
     simp only[Option.some.injEq] at hS ⊢;rw[hS]
   obtain⟨φ,h1,h2',h3⟩:=aru (fid:=fid) (path:=path++[i]) (nid:=nid) hpe hcl hlen hx (hs hw)
   have hfp:yL E all o {t:=t,h:=h}=CX E {t:=t,h:=h} o.op:=by simp only[yL,hw]
   refine⟨φ,fun r hr p hp=>?_,fun r hr id hi=>?_,fun K=>by rw[hst _ hw,h2'],fun K=>by rw[hst _ hwt,h3]⟩
   ·rw[hfp]; exact h1 r hr p hp
   ·rw[hfp] at hi
    by_cases hc:1≤cls E o.op
    ·refine aoX hc ?_ id hi
     cases hwf:mr E {t:=t,h:=h} o.op with
     |true=>rfl
     |false =>
      exfalso;have hk:=h2' fun v S=>some r0;rw[hr] at hk;simp[iH,hwf] at hk
    ·rw[I3 (by omega)] at hi;cases hi
def Bl:∀{l m:List Nat},disj l m=true↔∀x∈l,x∉m
 |[],m=>by simp[disj]
 |x::l,m=>by
  simp only[disj,dh,ff,fo,dm,forall_eq_or_imp,Bl (l:=l)];refine and_congr_left fun _=>⟨fun h hm=>h x hm (Nat.beq_refl x),fun h y hy he=>?_⟩;have:=du he;subst this;exact h hy
structure aqP (E:Env ρ) (all:List Oper) (bef:List Nat) (ia ib:Nat) (a b:Oper):Prop where
 ha:all[ia]?=some a
 hb:all[ib]?=some b
 a3:cls E a.op≤2
 b3:cls E b.op≤2∨cls E a.op=0
 rb:∀s∈iY all b,a.dst≠some s
 ra:∀s∈iY all a,b.dst≠some s
 dd:∀x,a.dst=some x→b.dst≠some x
 bab:(bef.getD ib 0).testBit ia=false
 bba:(bef.getD ia 0).testBit ib=false
def anF (E:Env ρ) (o:Op):cls E o≤3:=by
 cases o with
 |call c =>
  obtain⟨f,args,tys⟩:=c
  cases f with
  |value f=>cases f<;>simp only[cls]<;>(repeat' split)<;>omega
  |builtin b=>cases b<;>simp[cls]
  |_=>simp[cls]
 |_=>simp[cls]
def ahP {E:Env ρ} {all:List Oper} {bef:List Nat} {ia ib:Nat} {a b:Oper} (hc:aqg E all a b=false) (ha:all[ia]?=some a) (hb:all[ib]?=some b) (h1:(bef.getD ib 0).testBit ia=false) (h2:(bef.getD ia 0).testBit ib=false):aqP E all bef ia ib a b:=by
 unfold aqg at hc;simp only[Bool.or_eq_false_iff,beq_eq_false_iff_ne] at hc;obtain⟨⟨⟨⟨_,h3,h4⟩,h5⟩,h6⟩,h7⟩:=hc;have qa:=anF E a.op;have qb:=anF E b.op
 have h4':cls E b.op≤2∨cls E a.op=0:=by
  by_cases h8:cls E b.op=3
  ·rw[h8] at h4;right
   by_cases h9:1≤cls E a.op
   ·rw[Nat.ble_eq_true_of_le h9] at h4; cases h4
   ·omega
  ·left; omega
 refine⟨ha,hb,by omega,h4',fun s hs hd=>?_,fun s hs hd=>?_,fun x hx hy=>?_,h1,h2⟩
 ·rw[hd] at h5;simp[apE,hs] at h5
 ·rw[hd] at h6;simp[apE,hs] at h6
 ·rw[hx,hy] at h7;simp at h7
def Gi {E:Env ρ} {all:List Oper} {bef:List Nat} {j i:Nat} {a b:Oper} {Fj Fi:List Nat} (hp:Gj E all bef j i Fj Fi=true) (ha:all[j]?=some a) (hb:all[i]?=some b) (h1:(bef.getD j 0).testBit i=false) (h2:(bef.getD i 0).testBit j=false)
 (hc:D2 E a.op b.op=true):∀x∈Fj,x∉Fi:=by
 unfold Gj at hp;simp only[ha,hb,hc,h1,h2,Bool.not_true,Bool.false_or] at hp;exact Bl.1 hp
def ahQ {E:Env ρ} {a b:Op}:D2 E a b=D2 E b a:=by
 unfold D2; cases cls E a==2<;>cases cls E b==2<;>cases Nat.ble 1 (cls E a)<;>cases Nat.ble 1 (cls E b)<;>rfl
def agn {E:Env ρ} {all:List Oper} {bef:List Nat} {j i:Nat} {Fj Fi:List Nat} (hp:Gj E all bef j i Fj Fi=true):Gj E all bef i j Fi Fj=true:=by
 unfold Gj at hp ⊢
 cases ha:all[j]? with
 |none=>rw[ha] at hp; cases hp
 |some a=>cases hb:all[i]? with
  |none=>rw[ha,hb] at hp; cases hp
  |some b =>
   rw[ha,hb] at hp;simp only[Bool.or_eq_true,ff] at hp ⊢;rw[ahQ];rcases hp with hp|hp|hp|hp
   ·exact .inl hp
   ·exact .inr (.inr (.inl hp))
   ·exact .inr (.inl hp)
   ·exact .inr (.inr (.inr (Bl.2 fun x hx hy=>Bl.1 hp x hy hx)))
def qm {E:Env ρ} {a b:Op}:D2 E a b=true↔(cls E a=2∧1≤cls E b)∨(1≤cls E a∧cls E b=2):=by
 unfold D2;simp only[Bool.or_eq_true,Bool.and_eq_true,beq_iff_eq,Nat.ble_eq]
def pT {E:Env ρ} {all:List Oper} {bef:List Nat} {acc:List (Nat×List Nat)} {p:Nat×List Nat} {i:Nat} {F:List Nat}:chk E all bef (p::acc) i F=(Gj E all bef p.1 i p.2 F&&chk E all bef acc i F):=by
 simp[chk]
def JZ {E:Env ρ} {all:List Oper} {bef:List Nat} {j i:Nat} {a b:Oper} {Fj:List Nat} (ha:all[j]?=some a) (hb:all[i]?=some b):Gj E all bef j i Fj []=true:=by
 unfold Gj;simp only[ha,hb,Bool.or_eq_true];exact .inr (.inr (.inr (Bl.2 fun x _=>by simp)))
def SE {E:Env ρ} {all:List Oper} {o:Oper} (ht:∀s∈iY all o,lk t2 s=lk t s) (hs:Κ all o t=some true→1≤cls E o.op→∀x∈o.op.operands.toList,oG h h2 (ev t x)):yL E all o {t:=t2,h:=h2}=yL E all o {t:=t,h:=h}:=by
 unfold yL;simp only[ju (t:=t) (t2:=t2) ht]
 cases hw:Κ all o t with
 |none=>rfl
 |some b=>cases b with
  |false=>rfl
  |true=>exact I4 (Mo ht) (hs hw)
def akN {E:Env ρ} {o:Op} (h:cls E o=0):đ E.clone o=false:=by
 cases o with
 |call c =>
  obtain⟨f,args,tys⟩:=c
  cases f with
  |value f=>cases f<;>simp only[cls] at h<;>(repeat' split at h)<;>first|omega|rfl|(cases h; done)
  |builtin b=>cases b<;>simp[cls] at h
  |_=>simp[cls] at h
 |_=>first|rfl|(simp[cls] at h; done)
def anG {E:Env ρ} {o:Op} (h:cls E o=0):Xe o=false:=by
 cases o with
 |call c =>
  obtain⟨f,args,tys⟩:=c
  cases f with
  |value f=>cases f<;>simp only[cls] at h<;>(repeat' split at h)<;>first|omega|(cases h; done)
  |_=>rfl
 |_=>rfl
def ape {E:Env ρ} {call:List Nat→Bool→Nat→List AV→List Blk→(AV→List Blk→Option ρ)→Option ρ} {fid:Nat} {path:List Nat} {nid:Nat} {o:Oper} (hcl:cls E o.op=0) :
 ∃φ:Option AV,∀(t2:List AV) (h2:List Blk),(∀x∈o.op.operands.toList,ev t2 x=ev t x)→∀K,iH E call fid path true {t:=t2,h:=h2} nid o K=φ.bind fun v=>K v {t:=t2,h:=h2}:=by
 have hcall:=anG hcl;have hal:=akN hcl
 have hr:∀S:St,∀K,iH E call fid path true S nid o K=opK E.P S nid false o.op K:=fun S K=>by
  have hw:mr E S o.op=true:=by
   unfold mr
   have:Nat.ble 1 (cls E o.op)=false:=by rw[hcl]; rfl
   rw[this]
  have hea:aa9 E true fid o=false:=by
   unfold aa9
   cases ho:o.op<;>first|rfl|(rw[ho] at hcl; simp[cls] at hcl; done)
  unfold iH;simp only[hw,hea,Bool.not_true,Bool.and_false]
  cases hop:o.op with
  |call c =>
   obtain⟨f,args,tys⟩:=c;rw[hop] at hcall
   cases f with
   |value f=>cases hcall
   |_=>rfl
  |_=>rfl
 refine⟨opK E.P {t:=t,h:=[]} nid false o.op fun v _=>some v,fun t2 h2 hx K=>?_⟩;rw[hr,Yj]
 have:=aqW (P:=E.P) (E:=E) (o:=o.op) (nid:=nid) (σ:=AV) (σ2:=AV×St) (t:=t) (t2:=t2) (h:=[]) (h2:=h2) (K:=fun v _=>some v) (K2:=fun v S=>some (v,S)) (R:=fun x y=>y=x.map fun v=>(v,({t:=t2,h:=h2}:St)))
  rfl (by omega) hcall hx (fun h1=>by omega) (fun ty n ps ho=>by rw[ho] at hcl; simp[cls] at hcl) fun v ef hef=>by
   cases ef with
   |none=>rfl
   |some B=>rw[hal] at hef; exact absurd (hef rfl) (by simp)
 unfold opR;rw[this]
 cases opK E.P {t:=t,h:=[]} nid false o.op (fun v _=>some v)<;>rfl
def alJ {E:Env ρ} {call:List Nat→Bool→Nat→List AV→List Blk→(AV→List Blk→Option ρ)→Option ρ} {fid:Nat} {path:List Nat} {all:List Oper} {i nid:Nat} {o:Oper} (hcl:cls E o.op=0) (t:List AV) :
 ∃φ:Option AV,∀(t2:List AV) (h2:List Blk),(∀s∈iY all o,lk t2 s=lk t s)→∀K,qq E call fid path true all i nid o {t:=t2,h:=h2} K=φ.bind fun v=>K {t:=ÿ t2 o.dst v,h:=h2}:=by
 obtain⟨φ,hφ⟩:=ape (call:=call) (fid:=fid) (path:=path++[i]) (nid:=nid) (t:=t) hcl
 cases hw:Κ all o t with
 |none =>
  refine⟨none,fun t2 h2 ht K=>?_⟩;have hw2:=(ju (t:=t) (t2:=t2) ht).trans hw;unfold Κ at hw2;unfold qq
  cases hg:o.guard with
  |none=>rw[hg] at hw2; cases hw2
  |some g =>
   obtain⟨j,want⟩:=g;rw[hg] at hw2;simp only at hw2 ⊢
   cases hb:lk t2 (pK all j)<;>rw[hb] at hw2<;>first|rfl|cases hw2
 |some b =>
  cases b with
  |false =>
   refine⟨some .und,fun t2 h2 ht K=>?_⟩;have hw2:=(ju (t:=t) (t2:=t2) ht).trans hw;unfold Κ at hw2;unfold qq
   cases hg:o.guard with
   |none=>rw[hg] at hw2; cases hw2
   |some g =>
    obtain⟨j,want⟩:=g;rw[hg] at hw2;simp only at hw2 ⊢
    cases hb:lk t2 (pK all j)<;>rw[hb] at hw2<;>first|rfl|(cases hw2; done)|skip
    simp only[Option.some.injEq] at hw2 ⊢;rw[hw2];rfl
  |true =>
   refine⟨φ,fun t2 h2 ht K=>?_⟩;have hw2:=(ju (t:=t) (t2:=t2) ht).trans hw;have h3:=hφ t2 h2 (Mo ht);unfold Κ at hw2;unfold qq
   cases hg:o.guard with
   |none=>exact h3 _
   |some g =>
    obtain⟨j,want⟩:=g;rw[hg] at hw2;simp only at hw2 ⊢
    cases hb:lk t2 (pK all j)<;>rw[hb] at hw2<;>first|(cases hw2; done)|skip
    simp only[Option.some.injEq] at hw2 ⊢;rw[hw2];exact h3 _
def alZ {E:Env ρ} {call:List Nat→Bool→Nat→List AV→List Blk→(AV→List Blk→Option ρ)→Option ρ} {fid:Nat} {path:List Nat} {nid:Nat} {o:Oper} (hcl:cls E o.op=3) (hx:∀x∈o.op.operands.toList,ev t2 x=ev t x) (K:AV→St→Option ρ) :
 iH E call fid path true {t:=t2,h:=h} nid o K=iH E call fid path true {t:=t,h:=h} nid o fun v S=>K v {t:=t2,h:=S.h}:=by
 have hwf:mr E {t:=t2,h:=h} o.op=mr E {t:=t,h:=h} o.op:=SX hx fun _ _ _ _ _=>rfl;unfold iH;rw[hwf]
 cases ho:o.op with
 |call c =>
  obtain⟨f,args,tys⟩:=c;rw[ho] at hx hcl
  cases f with
  |value f =>
   have hf:ev t2 f=ev t f:=hx f (by simp[Op.operands,Call.operands]);have hxa:∀x∈args.toList,ev t2 x=ev t x:=fun x hm=>hx x (by simp[Op.operands,Call.operands]; exact .inr (by simpa using hm));have he:=PR hxa;simp only[hf,he]
   cases hev:ev t f with
   |fn g fa fb =>
    cases g with
    |func g =>
     simp only
     cases hc:E.clone g&&akw f with
     |false=>rfl
     |true =>
      exfalso;rw[dh] at hc
      cases f with
      |func g' =>
       have:g'=g:=by simp only[ev] at hev; cases hev; rfl
       subst this;simp[cls,hc.1] at hcl
      |_=>simp[akw] at hc
    |_=>rfl
   |_=>rfl
  |builtin b=>cases b<;>simp[cls] at hcl
  |_=>rfl
 |_=>rw[ho] at hcl; simp[cls] at hcl
def ajW {E:Env ρ} {call:List Nat→Bool→Nat→List AV→List Blk→(AV→List Blk→Option ρ)→Option ρ} {fid:Nat} {path:List Nat} {all:List Oper} {i nid:Nat} {o:Oper} (hcl:cls E o.op=3) (ht:∀s∈iY all o,lk t2 s=lk t s) :
 ∃Ψ:(AV→List Blk→Option ρ)→Option ρ,(∀K,qq E call fid path true all i nid o {t:=t,h:=h} K=Ψ fun v h'=>K {t:=ÿ t o.dst v,h:=h'})∧∀K,qq E call fid path true all i nid o {t:=t2,h:=h} K=Ψ fun v h'=>K {t:=ÿ t2 o.dst v,h:=h'}:=by
 have key:∀t':List AV,(∀s∈iY all o,lk t' s=lk t s)→∀K,qq E call fid path true all i nid o {t:=t',h:=h} K=(fun k:AV→List Blk→Option ρ=>match Κ all o t with
  |none=>none
  |some false=>k .und h
  |some true=>iH E call fid (path++[i]) true {t:=t,h:=h} nid o fun v S=>k v S.h) fun v h'=>K {t:=ÿ t' o.dst v,h:=h'}:=fun t' ht K=>by
  have hwt:=ju (t:=t) (t2:=t') (o:=o) ht;have h3:=alZ (call:=call) (fid:=fid) (path:=path++[i]) (nid:=nid) (h:=h) hcl (Mo ht);rw[←hwt];unfold Κ qq
  cases hg:o.guard with
  |none=>exact h3 _
  |some g =>
   obtain⟨j,want⟩:=g;simp only
   cases hb:lk t' (pK all j) with
   |bool b =>
    simp only
    cases hbw:b==want with
    |true=>exact h3 _
    |false=>rfl
   |_=>rfl
 exact⟨fun k:AV→List Blk→Option ρ=>match Κ all o t with
  |none=>none
  |some false=>k .und h
  |some true=>iH E call fid (path++[i]) true {t:=t,h:=h} nid o fun v S=>k v S.h,key t fun _ _=>rfl,key t2 ht⟩
def ae8 {E:Env ρ} {all:List Oper} {o:Oper} (hcl:cls E o.op=0) (S:St):yL E all o S=[]:=by
 unfold yL
 split
 ·exact I3 hcl
 ·rfl
def swap0 {E:Env ρ} {call:List Nat→Bool→Nat→List AV→List Blk→(AV→List Blk→Option ρ)→Option ρ} {fid:Nat} {path:List Nat} {all:List Oper} {bef:List Nat} {acc:List (Nat×List Nat)} {ia na ib nb:Nat} {a b:Oper} {K:List Nat→List Nat→St→Option ρ} {r:ρ}
 (hc:aqP E all bef ia ib a b) (ha:cls E a.op=0) (hb:cls E b.op=3)
 (e:yw E call fid path all bef acc ia na a {t:=t,h:=h} (fun Fa S=>yw E call fid path all bef ((ia,Fa)::acc) ib nb b S (K Fa))=some r) :
 yw E call fid path all bef acc ib nb b {t:=t,h:=h} (fun Fb S=>yw E call fid path all bef ((ib,Fb)::acc) ia na a S fun Fa=>K Fa Fb)=some r:=by
 obtain⟨φ,hφ⟩:=alJ (call:=call) (fid:=fid) (path:=path) (all:=all) (i:=ia) (nid:=na) ha t;unfold yw at e
 split at e<;>try (cases e; done)
 rename_i hcha;rw[hφ t h fun _ _=>rfl] at e;obtain⟨va,q1,q2⟩:=Ρ e;simp only at q2
 split at q2<;>try (cases q2; done)
 rename_i hchb;have htb:∀s∈iY all b,lk (ÿ t a.dst va) s=lk t s:=fun s hs=>yR (hc.rb s hs) _;obtain⟨Ψ,p1,p2⟩:=ajW (call:=call) (fid:=fid) (path:=path) (all:=all) (i:=ib) (nid:=nb) (h:=h) hb htb;rw[p2] at q2;have hwb:Κ all b (ÿ t a.dst va)=Κ all b t:=ju htb;have hfo:CX E {t:=ÿ t a.dst va,h:=h} b.op=CX E {t:=t,h:=h} b.op:=I4 (Mo htb) fun _ _ _ _ _=>rfl;have hfb:yL E all b {t:=ÿ t a.dst va,h:=h}=yL E all b {t:=t,h:=h}:=SE htb fun _ _ _ _ _ _=>rfl;unfold yw
 split
 ·rename_i hx;exfalso;rw[hfo,hwb,pT] at hchb
  cases hw:Κ all b t==some true<;>rw[hw] at hx hchb<;>simp only[Bool.false_and,dW,ff,fB,dw] at hx hchb
  rw[hx,Bool.and_false] at hchb;cases hchb
 ·rw[p1];rw[←q2];congr 1;funext v h';have hta:∀s∈iY all a,lk (ÿ t b.dst v) s=lk t s:=fun s hs=>yR (hc.ra s hs) _;have hwa:Κ all a (ÿ t b.dst v)=Κ all a t:=ju hta
  have hcond:¬((Κ all a (ÿ t b.dst v)==some true&&!chk E all bef ((ib,yL E all b {t:=t,h:=h})::acc) ia (CX E {t:=ÿ t b.dst v,h:=h'} a.op))=true):=by
   rw[hwa,I3 ha,pT,JZ hc.hb hc.ha,dW];rw[I3 ha] at hcha;exact fg.1 hcha
  dsimp only
  split
  ·rename_i hy; exact absurd hy hcond
  ·rw[hφ _ _ hta,q1,eX,ae8 ha,ae8 ha,hfb,Pm hc.dd]
def swap {E:Env ρ} {call:List Nat→Bool→Nat→List AV→List Blk→(AV→List Blk→Option ρ)→Option ρ} {fid:Nat} {path:List Nat} {all:List Oper} {bef:List Nat} {acc:List (Nat×List Nat)} {ia na ib nb:Nat} {a b:Oper} {K:List Nat→List Nat→St→Option ρ} {r:ρ}
 (hpe:aoG E call) (hc:aqP E all bef ia ib a b) (hbd:đ E.clone b.op=true→lkB h nb=.dead) (hn:đ E.clone a.op=true→đ E.clone b.op=true→na≠nb)
 (hfar1:đ E.clone a.op=true→∀x∈b.op.operands.toList,na∉refs1 (ev t x))
 (hfar:1≤cls E b.op→đ E.clone a.op=true→(∀p∈acc,∀c,all[p.1]?=some c→D2 E c.op b.op=true→(bef.getD ib 0).testBit p.1=false→(bef.getD p.1 0).testBit ib=false→∀x∈b.op.operands.toList,∀id∈refs1 (ev t x),id∉p.2)→∀x∈b.op.operands.toList,na∉refs2 h (ev t x))
 (e:yw E call fid path all bef acc ia na a {t:=t,h:=h} (fun Fa S=>yw E call fid path all bef ((ia,Fa)::acc) ib nb b S (K Fa))=some r) :
 yw E call fid path all bef acc ib nb b {t:=t,h:=h} (fun Fb S=>yw E call fid path all bef ((ib,Fb)::acc) ia na a S fun Fa=>K Fa Fb)=some r:=by
 by_cases hb3:cls E b.op≤2
 case neg =>
  have:=anF E b.op;exact swap0 hc (hc.b3.resolve_left hb3) (by omega) e
 -- what a does
 obtain⟨φa,a0,a1,a2,_⟩:=OG (t:=t) (t2:=t) (h:=h) (h2:=h) (call:=call) (fid:=fid) (path:=path) (i:=ia) (nid:=na) (all:=all) r hpe hc.a3 rfl (fun _ _=>rfl) (fun _ _ _ _ _ _=>rfl);unfold yw at e
 split at e<;>try (cases e; done)
 rename_i hcha;rw[a2] at e;obtain⟨⟨va,ea⟩,q1,q2⟩:=Ρ e;simp only at q2
 split at q2<;>try (cases q2; done)
 rename_i hchb;have hal1:=a1 _ q1;have hea:=a0 _ q1;simp only at hea
 -- b looks at the same
 have htb:∀s∈iY all b,lk (ÿ t a.dst va) s=lk t s:=fun s hs=>yR (hc.rb s hs) _;have htb':∀s∈iY all b,lk t s=lk (ÿ t a.dst va) s:=fun s hs=>(htb s hs).symm;have hxb:=Mo htb;have hwb:Κ all b (ÿ t a.dst va)=Κ all b t:=ju htb
 have hne1:1≤cls E b.op→Κ all b t=some true→chk E all bef ((ia,yL E all a {t:=t,h:=h})::acc) ib (CX E {t:=ÿ t a.dst va,h:=aps ea h} b.op)=true:=fun _ hw=>by
  rw[hwb,hw] at hchb;simpa using hchb
 have hone:Κ all b t=some true→1≤cls E b.op→∀x∈b.op.operands.toList,∀id∈refs1 (ev t x),lkB (aps ea h) id=lkB h id:=fun hw h1 x hx id hi=>by
  refine XF fun p hp hid=>?_;rcases hea p hp with⟨h2,h3⟩|⟨h2,h3⟩
  ·exact hfar1 h3 x hx (by rw[←h2,hid]; exact hi)
  ·have hk:=hne1 h1 hw;rw[pT,dh] at hk;refine Gi hk.1 hc.ha hc.hb hc.bba hc.bab (qm.2 (.inl ⟨h2,h1⟩)) p.1 h3 ?_;rw[hid];refine(pM h1).2 ⟨x,hx,?_⟩;rw[hxb x hx];simp only[refs2,dk];exact .inl hi
 have hrefs:Κ all b t=some true→1≤cls E b.op→∀x∈b.op.operands.toList,refs2 (aps ea h) (ev t x)=refs2 h (ev t x):=fun hw h1 x hx=>by
  have:∀(l:List Nat),(∀id∈l,lkB (aps ea h) id=lkB h id)→(l.flatMap fun id=>(Tc (lkB (aps ea h) id)).flatMap Ķ)=l.flatMap fun id=>(Tc (lkB h id)).flatMap Ķ:=by
   intro l
   induction l with
   |nil=>intro _; rfl
   |cons y l ih=>intro hl; simp only[ez]; rw[hl y (by simp),ih fun id hi=>hl id (by simp[hi])]
  simp only[refs2];rw[this _ (hone hw h1 x hx)]
 have hfar2:Κ all b t=some true→1≤cls E b.op→đ E.clone a.op=true→∀x∈b.op.operands.toList,na∉refs2 h (ev t x):=fun hw h1 h2=>hfar h1 h2 fun p hp c hc1 hc2 hb1 hb2 x hx id hi hid=>by
  have hk:=hne1 h1 hw;rw[pT,dh] at hk;have hk2:=dO.1 hk.2 p hp;refine Gi hk2 hc1 hc.hb hb2 hb1 hc2 id hid ((pM h1).2 ⟨x,hx,?_⟩);rw[hxb x hx];simp only[refs2,dk];exact .inl hi
 have hsame:Κ all b t=some true→1≤cls E b.op→∀x∈b.op.operands.toList,oG h (aps ea h) (ev t x):=fun hw h1 x hx id hi=>by
  refine XF fun p hp hid=>?_;rcases hea p hp with⟨h2,h3⟩|⟨h2,h3⟩
  ·exact hfar2 hw h1 h3 x hx (by rw[←h2,hid]; exact hi)
  ·have hk:=hne1 h1 hw;rw[pT,dh] at hk;refine Gi hk.1 hc.ha hc.hb hc.bba hc.bab (qm.2 (.inl ⟨h2,h1⟩)) p.1 h3 ?_;rw[hid];refine(pM h1).2 ⟨x,hx,?_⟩;rw[hxb x hx,hrefs hw h1 x hx];exact hi
 -- what b does
 obtain⟨φb,b0,b1,b2,b3⟩:=OG (t:=t) (t2:=ÿ t a.dst va) (h:=h) (h2:=aps ea h) (call:=call) (fid:=fid) (path:=path) (i:=ib) (nid:=nb) (all:=all) r hpe hb3 (Lx _ _) htb hsame;have hfb:yL E all b {t:=ÿ t a.dst va,h:=aps ea h}=yL E all b {t:=t,h:=h}:=SE htb hsame;rw[b3] at q2;obtain⟨⟨vb,eb⟩,q3,q4⟩:=Ρ q2;simp only at q4;rw[hfb] at q4;have heb:=b0 _ q3;simp only at heb;have hfo:Κ all b t=some true→CX E {t:=ÿ t a.dst va,h:=aps ea h} b.op=CX E {t:=t,h:=h} b.op:=fun hw=>I4 hxb (hsame hw)
 -- a looks at the same
 have hta:∀s∈iY all a,lk (ÿ t b.dst vb) s=lk t s:=fun s hs=>yR (hc.ra s hs) _
 have hdisj:D2 E a.op b.op=true→∀id∈yL E all a {t:=t,h:=h},id∉yL E all b {t:=t,h:=h}:=fun hcl id hi hj=>by
  unfold yL at hj;simp only at hj
  split at hj
  ·rename_i hw
   have h1:1≤cls E b.op:=by rcases qm.1 hcl with h|h<;>omega
   have hk:=hne1 h1 hw;rw[pT,dh,hfo hw] at hk;exact Gi hk.1 hc.ha hc.hb hc.bba hc.bab hcl id hi hj
  ·cases hj
 have hsamea:Κ all a t=some true→1≤cls E a.op→∀x∈a.op.operands.toList,oG h (aps eb h) (ev t x):=fun hw h1 x hx id hi=>by
  have hidF:id∈yL E all a {t:=t,h:=h}:=by
   unfold yL;simp only[hw];exact(pM h1).2 ⟨x,hx,hi⟩
  refine XF fun p hp hid=>?_;rcases heb p hp with⟨h2,h3⟩|⟨h2,h3⟩
  ·exact hal1 id hidF (by rw[←hid,h2]; exact hbd h3)
  ·exact hdisj (qm.2 (.inr ⟨h1,h2⟩)) id hidF (hid▸h3)
 obtain⟨φa',a0',a1',a2',a3'⟩:=OG (t:=t) (t2:=ÿ t b.dst vb) (h:=h) (h2:=aps eb h) (call:=call) (fid:=fid) (path:=path) (i:=ia) (nid:=na) (all:=all) r hpe hc.a3 (Lx _ _) hta hsamea;have hfa:yL E all a {t:=ÿ t b.dst vb,h:=aps eb h}=yL E all a {t:=t,h:=h}:=SE hta hsamea
 have h3:qq E call fid path true all ia na a {t:=t,h:=h} (fun S=>K (yL E all a {t:=t,h:=h}) (yL E all b {t:=t,h:=h}) {t:=ÿ S.t b.dst vb,h:=aps eb S.h})=some r:=by rw[a2,q1]; exact q4
 rw[a2'] at h3;obtain⟨⟨va',ea'⟩,q5,q6⟩:=Ρ h3;simp only at q6;have hea':=a0' _ q5;simp only at hea'
 have hcomm:aps eb (aps ea' h)=aps ea' (aps eb h):=ajG fun p hp q hq hpq=>by
  rcases hea' p hp with⟨h2,h3⟩|⟨h2,h3⟩<;>rcases heb q hq with⟨h4,h5⟩|⟨h4,h5⟩
  ·exact hn h3 h5 (by rw[←h2,←h4]; exact hpq)
  ·-- b would write a's new block
   have hw:Κ all b t=some true:=by
    unfold yL at h5;simp only at h5
    split at h5
    ·assumption
    ·cases h5
   have h5':q.1∈CX E {t:=t,h:=h} b.op:=by
    unfold yL at h5;simp only[hw] at h5;exact h5
   obtain⟨x,hx,hi⟩:=(pM (by omega)).1 h5';exact hfar2 hw (by omega) h3 x hx (by rw[←h2,hpq]; exact hi)
  ·exact hal1 p.1 h3 (by rw[hpq,h4]; exact hbd h5)
  ·exact hdisj (qm.2 (.inl ⟨h2,by omega⟩)) p.1 h3 (by rw[hpq]; exact h5)
 rw[Pm hc.dd,hcomm] at q6
 -- the checks
 have chb:(Κ all b t==some true&&!chk E all bef acc ib (CX E {t:=t,h:=h} b.op))=false:=by
  cases hw:Κ all b t==some true with
  |false=>rfl
  |true =>
   have hw':Κ all b t=some true:=by simpa using hw
   rw[hwb,hw] at hchb;simp only[dW,fB] at hchb ⊢;rw[pT,dh,hfo hw'] at hchb;exact hchb.2
 have cha:(Κ all a (ÿ t b.dst vb)==some true&&!chk E all bef ((ib,yL E all b {t:=t,h:=h})::acc) ia (CX E {t:=ÿ t b.dst vb,h:=aps eb h} a.op))=false:=by
  rw[ju hta]
  cases hw:Κ all a t==some true with
  |false=>rfl
  |true =>
   have hw':Κ all a t=some true:=by simpa using hw
   rw[hw] at hcha;simp only[dW,fB] at hcha ⊢;rw[I4 (Mo hta) (hsamea hw'),pT,dh];refine⟨agn ?_,hcha⟩
   have hfa0:yL E all a {t:=t,h:=h}=CX E {t:=t,h:=h} a.op:=by simp only[yL,hw']
   cases hwb':Κ all b t with
   |some wb=>cases wb with
    |true =>
     rw[hwb,hwb'] at hchb;simp only[beq_self_eq_true,dW,fB] at hchb;rw[pT,dh,hfo hwb',hfa0] at hchb;simp only[yL,hwb'];exact hchb.1
    |false=>simp only[yL,hwb']; exact JZ hc.ha hc.hb
   |none=>simp only[yL,hwb']; exact JZ hc.ha hc.hb
 unfold yw;simp only[chb];rw[b2,q3];simp only[Option.bind_some,cha];rw[a3',q5];simp only[Option.bind_some];rw[hfa];exact q6
abbrev Item:=Nat×Nat×Oper
def oV (clone:Nat→Bool):List Oper→Nat→Nat→List Item
 |[],_,_=>[]
 |o::os,i,nid=>(i,nid,o)::oV clone os (i+1) (bif đ clone o.op then nid+1 else nid)
def aix (E:Env ρ) (call:List Nat→Bool→Nat→List AV→List Blk→(AV→List Blk→Option ρ)→Option ρ) (fid:Nat) (path:List Nat) (all:List Oper) (bef:List Nat):List Item→List (Nat×List Nat)→St→(St→Option ρ)→Option ρ
 |[],_,S,K=>K S
 |x::l,acc,S,K=>yw E call fid path all bef acc x.1 x.2.1 x.2.2 S fun F S=>aix E call fid path all bef l ((x.1,F)::acc) S K
def acI {E:Env ρ} {call:List Nat→Bool→Nat→List AV→List Blk→(AV→List Blk→Option ρ)→Option ρ} {fid:Nat} {path:List Nat} {all:List Oper} {bef:List Nat}:∀(os:List Oper) (i nid:Nat) (acc:List (Nat×List Nat)) (S:St) (K:St→Option ρ),
 amg E call fid path all bef os i nid acc S K=aix E call fid path all bef (oV E.clone os i nid) acc S K
 |[],_,_,_,_,_=>rfl
 |o::os,i,nid,acc,S,K=>by
  rw[amf];simp only[oV,aix];congr 1;funext F S';exact acI os _ _ _ S' K
def aqj {E:Env ρ} {all:List Oper} {bef:List Nat} {acc acc':List (Nat×List Nat)} {i:Nat} {F:List Nat} (h:∀p,p∈acc↔p∈acc'):chk E all bef acc i F=chk E all bef acc' i F:=by
 rw[dX];simp only[chk,dO]
 exact forall_congr' fun p=>by rw[h p]
def ab9 {E:Env ρ} {call:List Nat→Bool→Nat→List AV→List Blk→(AV→List Blk→Option ρ)→Option ρ} {fid:Nat} {path:List Nat} {all:List Oper} {bef:List Nat} {K:St→Option ρ}:∀(l:List Item) {acc acc':List (Nat×List Nat)} (S:St),(∀p,p∈acc↔p∈acc') →
 aix E call fid path all bef l acc S K=aix E call fid path all bef l acc' S K
 |[],_,_,_,_=>rfl
 |x::l,acc,acc',S,h=>by
  simp only[aix,yw];rw[aqj h]
  split
  ·rfl
  ·congr 1;funext S'
   exact ab9 l S' fun p=>by simp[h p]
def arh {E:Env ρ} {call:List Nat→Bool→Nat→List AV→List Blk→(AV→List Blk→Option ρ)→Option ρ} {fid:Nat} {path:List Nat} {all:List Oper} {bef:List Nat} {b:Item} {rest:List Item} {K:St→Option ρ} {r:ρ} {h0:List Blk} {t0:List AV}
 (hpe:aoG E call) :
 ∀(as:List Item) (acc:List (Nat×List Nat)) (t:List AV) (h:List Blk),(∀a∈as,aqP E all bef a.1 b.1 a.2.2 b.2.2)→(∀s∈iY all b.2.2,lk t s=lk t0 s)→(đ E.clone b.2.2.op=true→lkB h b.2.1=.dead) →
  (∀a∈as,đ E.clone a.2.2.op=true→đ E.clone b.2.2.op=true→a.2.1≠b.2.1)→(∀a∈as,đ E.clone a.2.2.op=true→∀x∈b.2.2.op.operands.toList,a.2.1∉refs2 h0 (ev t0 x)) →
  (1≤cls E b.2.2.op→∀x∈b.2.2.op.operands.toList,∀id∈refs1 (ev t0 x),lkB h id=lkB h0 id∨∃p∈acc,(∃c,all[p.1]?=some c∧D2 E c.op b.2.2.op=true∧(bef.getD b.1 0).testBit p.1=false∧(bef.getD p.1 0).testBit b.1=false)∧id∈p.2) →
  aix E call fid path all bef (as++b::rest) acc {t:=t,h:=h} K=some r→aix E call fid path all bef (b::(as++rest)) acc {t:=t,h:=h} K=some r
 |[],acc,t,h,_,_,_,_,_,_,e=>e
 |a::as,acc,t,h,hap,ht,hbd,hn,hfar,hinv,e=>by
  have hA:=hap a (by simp);have hx0:∀x∈b.2.2.op.operands.toList,ev t x=ev t0 x:=Mo ht
  have hf1:đ E.clone a.2.2.op=true→∀x∈b.2.2.op.operands.toList,a.2.1∉refs1 (ev t x):=fun hal x hx hi=>hfar a (by simp) hal x hx (by
   rw[hx0 x hx] at hi;simp only[refs2,dk]
   exact .inl hi)
  simp only[fk,aix] at e ⊢
  have fin:=swap (K:=fun Fa Fb S=>aix E call fid path all bef (as++rest) ((b.1,Fb)::(a.1,Fa)::acc) S K) (r:=r) (t:=t) (h:=h) (acc:=acc) (ia:=a.1) (na:=a.2.1) (ib:=b.1) (nb:=b.2.1) (a:=a.2.2) (b:=b.2.2) (fid:=fid) (path:=path) hpe hA hbd (hn a (by simp)) hf1
   (fun h1 hal hno x hx=>by
    rw[hx0 x hx];have hcells:∀id∈refs1 (ev t0 x),lkB h id=lkB h0 id:=fun id hi=>(hinv h1 x hx id hi).resolve_right fun⟨p,hp,⟨c,c1,c2,c3,c4⟩,hid⟩=>hno p hp c c1 c2 c3 c4 x hx id (by rw[hx0 x hx]; exact hi) hid
    have:refs2 h (ev t0 x)=refs2 h0 (ev t0 x):=by
     have key:∀(l:List Nat),(∀id∈l,lkB h id=lkB h0 id)→(l.flatMap fun id=>(Tc (lkB h id)).flatMap Ķ)=l.flatMap fun id=>(Tc (lkB h0 id)).flatMap Ķ:=by
      intro l
      induction l with
      |nil=>intro _; rfl
      |cons y l ih=>intro hl; simp only[ez]; rw[hl y (by simp),ih fun id hi=>hl id (by simp[hi])]
     simp only[refs2];rw[key _ hcells]
    rw[this]
    exact hfar a (by simp) hal x hx) ?_
  ·have hperm:∀(Fa Fb:List Nat) (S:St),aix E call fid path all bef (as++rest) ((b.1,Fb)::(a.1,Fa)::acc) S K=aix E call fid path all bef (as++rest) ((a.1,Fa)::(b.1,Fb)::acc) S K:=fun Fa Fb S=>ab9 _ S fun p=>by
    simp only[dm]
    constructor<;>rintro(h|h|h)<;>simp[h]
   simp only[hperm] at fin;exact fin
  ·-- behind a
   obtain⟨φa,a0,a1,a2,_⟩:=OG (t:=t) (t2:=t) (h:=h) (h2:=h) (call:=call) (fid:=fid) (path:=path) (i:=a.1) (nid:=a.2.1) (all:=all) r hpe hA.a3 rfl (fun _ _=>rfl) (fun _ _ _ _ _ _=>rfl);unfold yw at e ⊢
   split at e<;>try (cases e; done)
   rename_i hcha;simp only[hcha];rw[a2] at e ⊢;obtain⟨⟨va,ea⟩,q1,q2⟩:=Ρ e;rw[q1];simp only[eX];have hal1:=a1 _ q1;have hea:=a0 _ q1;simp only at hea q2;refine arh hpe as _ _ _ (fun c hc=>hap c (by simp[hc])) (fun s hs=>(yR (hA.rb s hs) _).trans (ht s hs)) (fun hal=>?_) (fun c hc=>hn c (by simp[hc])) (fun c hc=>hfar c (by simp[hc])) (fun h1 x hx id hi=>?_) q2
   ·refine(XF fun p hp hid=>?_).trans (hbd hal);rcases hea p hp with⟨h2,h3⟩|⟨h2,h3⟩
    ·exact hn a (by simp) h3 hal (h2.symm.trans hid)
    ·exact hal1 p.1 h3 (by rw[hid]; exact hbd hal)
   ·by_cases hin:∃p∈ea,p.1=id
    ·obtain⟨p,hp,hid⟩:=hin;rcases hea p hp with⟨h2,h3⟩|⟨h2,h3⟩
     ·exfalso;exact hf1 h3 x hx (by rw[hx0 x hx,←h2,hid]; exact hi)
     ·exact .inr ⟨(a.1,_),List.mem_cons_self ..,⟨a.2.2,hA.ha,qm.2 (.inl ⟨h2,h1⟩),hA.bab,hA.bba⟩,hid▸h3⟩
    ·have hne:lkB (aps ea h) id=lkB h id:=XF fun p hp hid=>hin ⟨p,hp,hid⟩;rw[hne];rcases hinv h1 x hx id hi with h2|⟨p,hp,h2⟩
     ·exact .inl h2
     ·exact .inr ⟨p,by simp[hp],h2⟩
section
variable {ν:Nat→Value} {w:World}
def VR0.refs {a:AV} {v:Value} (hv:VR0 ν h w a v):∀id∈Ķ a,lkB h id≠.dead:=by
 intro id hi hd
 cases a<;>simp only[Ķ,dt,gp] at hi
 ·subst hi; obtain⟨_,t,g',fz,xs,hl,_⟩:=hv; rw[hd] at hl; cases hl
 ·subst hi; obtain⟨_,t,g',fz,xs,hl,_⟩:=hv; rw[hd] at hl; cases hl
 ·subst hi; obtain⟨_,t,g',fz,hl,_⟩:=hv; rw[hd] at hl; cases hl
 ·subst hi; obtain⟨_,_,hl,_⟩:=hv; rw[hd] at hl; cases hl
 ·subst hi; obtain⟨_,t,g',fz,xs,hl,_⟩:=hv; rw[hd] at hl; cases hl
 ·subst hi; obtain⟨_,k,g',xss,hl,_⟩:=hv; rw[hd] at hl; cases hl
 ·subst hi; obtain⟨_,k,g',xss,hl,_⟩:=hv; rw[hd] at hl; cases hl
 ·subst hi; obtain⟨_,k,g',xss,hl,_⟩:=hv; rw[hd] at hl; cases hl
 ·subst hi; obtain⟨_,k,g',xss,hl,_⟩:=hv; rw[hd] at hl; cases hl
def VR1.refs {a:AV} {v:Value} (hv:VR1 ν h w a v):∀id∈Ķ a,lkB h id≠.dead:=by
 cases hf:a.isFn with
 |true=>cases a<;>first|(cases hf; done)|(intro id hi; cases hi)
 |false=>rw[Tz hf] at hv; exact hv.refs
def Č.left_mem {α β:Type} {R:α→β→Prop}:∀{l:List α} {m:List β},Č R l m→∀a∈l,∃b∈m,R a b
 |[],_,_,a,ha=>by cases ha
 |x::l,y::m,h,a,ha=>by
  rcases dm.1 ha with rfl|ha
  ·exact⟨y,by simp,h.1⟩
  ·obtain⟨b,hb,hr⟩:=Č.left_mem h.2 a ha;exact⟨b,by simp[hb],hr⟩
 |_::_,[],h,_,_=>h.elim
def VR.refs1 {a:AV} {v:Value} (hv:VR ν h w a v):∀id∈Go.Am.refs1 a,lkB h id≠.dead:=by
 cases hag:a.isAgg with
 |true =>
  cases a<;>try cases hag
  obtain⟨us,_,h2⟩:=hv;intro id hi;simp only[Go.Am.refs1,dK] at hi;obtain⟨c,hc,hi⟩:=hi;obtain⟨u,_,hu⟩:=h2.left_mem c hc;exact hu.1.refs id hi
 |false =>
  cases htu:a.isTup with
  |true=>cases a<;>first|(cases htu; done)|(intro id hi; cases hi)
  |false =>
   have h1:=hv.one hag htu;have h2:=h1.refs
   cases a with
   |fn f fa fb =>
    obtain⟨fs,cs,_,h3,h4⟩:=h1
    have one:∀c u,VR0 ν h w c u→∀id∈al4 c,lkB h id≠.dead:=fun c u hu id hi=>by
     cases c with
     |agg=>exact hu.elim
     |_=>exact hu.refs id hi
    intro id hi;simp only[Go.Am.refs1,dk,dK] at hi;rcases hi with⟨c,hc,hi⟩|⟨c,hc,hi⟩
    ·obtain⟨u,_,hu⟩:=h3.left_mem c hc;exact one c u hu id hi
    ·obtain⟨u,_,hu⟩:=h4.left_mem c hc;exact one c u hu id hi
   |agg=>cases hag
   |_=>exact h2
def VR.refs2 (H:HR ν h w) {a:AV} {v:Value} (hv:VR ν h w a v):∀id∈Go.Am.refs2 h a,lkB h id≠.dead:=by
 intro id hi;simp only[Go.Am.refs2,dk,dK] at hi;rcases hi with hi|⟨j,hj,c,hc,hi⟩
 ·exact hv.refs1 id hi
 ·have hB:=H.blk j
  cases hl:lkB h j with
  |cells cs =>
   rw[hl] at hB hc;obtain⟨b,arr,e,_,_,h3⟩:=hB;obtain⟨u,_,hu⟩:=h3.left_mem c hc;exact hu.1.refs id hi
  |_=>rw[hl] at hc; cases hc
end
end
end Go.Am
end

noncomputable section
namespace Go.Am
variable [ø]
section
variable {ρ:Type} {ν:Nat→Value} {h:List Blk} {w:World}
def aog (acc:List Nat) (o:Oper):Nat:=o.after.toList.foldl (fun s e=>if Region.binds .any e then s ||| 2 ^ e.on ||| acc.getD e.on 0 else s) 0
def L4:∀(os:List Oper) (acc:List Nat),∃l,Τ os acc=acc++l∧∀(k:Nat) (o:Oper),os[k]?=some o→(acc++l).getD (acc.length+k) 0=aog ((acc++l).take (acc.length+k)) o
 |[],acc=>⟨[],by simp[Τ],by simp⟩
 |o::os,acc=>by
  obtain⟨l,h1,h2⟩:=L4 os (acc++[aog acc o]);refine⟨aog acc o::l,?_,?_⟩
  ·simp only[Τ];show Τ os (acc++[aog acc o])=_;rw[h1]; simp
  ·intro k o' hk
   cases k with
   |zero =>
    simp only[fJ,Option.some.injEq] at hk;subst hk;simp[List.getD]
   |succ k =>
    have:=h2 k o' (by simpa using hk);simp only[dF,List.singleton_append,di,dN] at this;rw[show acc.length+(k+1)=acc.length+1+k by omega];exact this
def aof {os:List Oper} {k:Nat} {o:Oper} (hk:os[k]?=some o):(Τ os []).getD k 0=aog ((Τ os []).take k) o:=by
 obtain⟨l,h1,h2⟩:=L4 os [];rw[h1];simpa using h2 k o hk
def aa2 {acc:List Nat} {i:Nat}:∀(es:List Edge) (s:Nat),(es.foldl (fun s e=>if Region.binds .any e then s ||| 2 ^ e.on ||| acc.getD e.on 0 else s) s).testBit i=true →
 s.testBit i=true∨∃e∈es,Region.binds .any e=true∧(i=e.on∨(acc.getD e.on 0).testBit i=true)
 |[],s,h=>.inl h
 |e::es,s,h=>by
  simp only[f5] at h;rcases aa2 es _ h with h1|⟨e',hm,h1⟩
  ·split at h1
   ·rename_i hb;simp only[Nat.testBit_or,Bool.or_eq_true,Nat.testBit_two_pow,decide_eq_true_eq] at h1;rcases h1 with(h1|h1)|h1
    ·exact .inl h1
    ·exact .inr ⟨e,by simp,hb,.inl h1.symm⟩
    ·exact .inr ⟨e,by simp,hb,.inr h1⟩
   ·exact .inl h1
  ·exact .inr ⟨e',by simp[hm],h1⟩
def Bk {E:Env ρ} {all:List Oper} {bef:List Nat}:∀{bs:List Oper} {j0:Nat},Ci E all bef bs j0=true→∀(k:Nat) (b:Oper),bs[k]?=some b→∀(i:Nat) (a:Oper),i<j0+k→all[i]?=some a→aqg E all a b=false∨(bef.getD (j0+k) 0).testBit i=true
 |[],_,_,k,b,hk,_,_,_,_=>by simp at hk
 |x::bs,j0,h,k,b,hk,i,a,hi,ha=>by
  simp only[Ci,dh,dO,fV] at h
  cases k with
  |zero =>
   simp only[fJ,Option.some.injEq] at hk;subst hk;have:=h.1 i (by omega);rw[ha] at this;simp only[Bool.or_eq_true,ff] at this;simpa using this
  |succ k =>
   have:=Bk h.2 k b (by simpa using hk) i a (by omega) ha
   rwa [show j0+1+k=j0+(k+1) by omega] at this
def xJ:∀{os:List Oper} {j:Nat},afJ os j=true→∀(k:Nat) (o:Oper),os[k]?=some o→∀e∈o.after,Region.binds .any e=true→e.on<j+k
 |[],_,_,k,o,hk,_,_,_=>by simp at hk
 |x::os,j,h,k,o,hk,e,he,hb=>by
  simp only[afJ,dh,dO] at h
  cases k with
  |zero =>
   simp only[fJ,Option.some.injEq] at hk;subst hk;have:=h.1 e (by simpa using he);simp only[hb,dT,Bool.false_or,decide_eq_true_eq] at this;omega
  |succ k =>
   have:=xJ h.2 k o (by simpa using hk) e he hb;omega
def bef_lt {os:List Oper} (hb:afJ os 0=true):∀(j i:Nat),((Τ os []).getD j 0).testBit i=true→i<j:=by
 intro j
 induction j using Nat.strongRecOn with
 |ind j ih =>
  intro i hi
  cases ho:os[j]? with
  |none =>
   obtain⟨l,h1,_⟩:=L4 os []
   have hlen:∀(os:List Oper) (acc:List Nat),(Τ os acc).length=acc.length+os.length:=by
    intro os
    induction os with
    |nil=>intro acc; simp[Τ]
    |cons o os ih=>intro acc; simp only[Τ]; rw[ih]; simp; omega
   have:(Τ os [])[j]?=none:=by
    rw[List.getElem?_eq_none_iff] at ho ⊢;rw[hlen]; simpa using ho
   simp[List.getD,this] at hi
  |some o =>
   rw[aof ho] at hi;rcases aa2 _ _ hi with hz|⟨ed,h1,h2,h3⟩
   ·simp at hz
   ·have hlt:=xJ hb j o ho ed (by simpa using h1) h2;rw[dC] at hlt;rcases h3 with rfl|h3
    ·exact hlt
    ·have:((Τ os []).getD ed.on 0).testBit i=true:=by
      rw[←h3];congr 1;simp only[List.getD,eO];rw[if_pos (by omega)]
     exact Nat.lt_trans (ih ed.on hlt i this) hlt
def rj {clone:Nat→Bool}:∀{os:List Oper} {i nid:Nat} {x:Item},x∈oV clone os i nid→∃k,os[k]?=some x.2.2∧x.1=i+k∧nid≤x.2.1∧(đ clone x.2.2.op=true→x.2.1<nid+iZ clone os)
 |[],_,_,_,hx=>by cases hx
 |o::os,i,nid,x,hx=>by
  simp only[oV,dm] at hx;rcases hx with rfl|hx
  ·exact⟨0,by simp,rfl,dg _,fun h=>by rw[nV]; simp only at h; rw[h]; simp⟩
  ·obtain⟨k,h1,h2,h3,h4⟩:=rj hx;refine⟨k+1,by simpa using h1,by omega,?_,fun h=>?_⟩
   ·cases hal:đ clone o.op<;>rw[hal] at h3<;>simp at h3<;>omega
   ·have:=h4 h;rw[nV]
    cases hal:đ clone o.op<;>rw[hal] at this<;>simp at this ⊢<;>omega
def IV {clone:Nat→Bool}:∀{os:List Oper} {i nid k:Nat} {o:Oper},os[k]?=some o→∃n,(i+k,n,o)∈oV clone os i nid
 |[],_,_,k,_,h=>by simp at h
 |x::os,i,nid,0,o,h=>by
  simp only[fJ,Option.some.injEq] at h;subst h;exact⟨nid,by simp[oV]⟩
 |x::os,i,nid,k+1,o,h=>by
  obtain⟨n,hn⟩:=IV (clone:=clone) (i:=i+1) (nid:=bif đ clone x.op then nid+1 else nid) (os:=os) (k:=k) (o:=o) (by simpa using h);exact⟨n,by simp only[oV,dm]; right; rwa [show i+(k+1)=i+1+k by omega]⟩
def Lz {clone:Nat→Bool}:∀{os:List Oper} {i nid:Nat},(oV clone os i nid).Pairwise fun x y=>x.1<y.1∧(đ clone x.2.2.op=true→x.2.1<y.2.1)
 |[],_,_=>List.Pairwise.nil
 |o::os,i,nid=>by
  refine List.Pairwise.cons (fun y hy=>?_) Lz;obtain⟨k,_,h2,h3,_⟩:=rj hy;refine⟨by simp only; omega,fun hal=>?_⟩;simp only at hal;rw[hal] at h3;simp at h3 ⊢;omega
def akE {l:List Item} {p p':Item→Bool} {b:Item} (hp:l.Pairwise fun x y=>x.1<y.1) (hb:b∈l) (hpb:p b=true) (hpp:∀x∈l,p' x=(p x&&x.1 != b.1)) :
 ∃as rest,l.filter p=as++b::rest∧l.filter p'=as++rest∧∀a∈as,a∈l∧p a=true∧a.1<b.1:=by
 obtain⟨l1,l2,rfl⟩:=List.append_of_mem hb;rw[List.pairwise_append] at hp;obtain⟨_,h2,h3⟩:=hp;have h1:∀x∈l1,x.1<b.1:=fun x hx=>h3 x hx b (by simp);have h4:∀x∈l2,b.1<x.1:=fun x hx=>(dQ.1 h2).1 x hx;refine⟨l1.filter p,l2.filter p,by simp[hpb],?_,fun a ha=>?_⟩
 ·have e1:l1.filter p'=l1.filter p:=List.filter_congr fun x hx=>by
   rw[hpp x (by simp[hx])]
   have:(x.1 != b.1)=true:=by have:=h1 x hx; simp; omega
   rw[this]; simp
  have e2:l2.filter p'=l2.filter p:=List.filter_congr fun x hx=>by
   rw[hpp x (by simp[hx])]
   have:(x.1 != b.1)=true:=by have:=h4 x hx; simp; omega
   rw[this]; simp
  have e3:p' b=false:=by rw[hpp b (by simp)]; simp
  simp[e1,e2,e3]
 ·rw[fS] at ha;exact⟨by simp[ha.1],ha.2,h1 a ha.1⟩
def aiF {α:Type} {R:α→α→Prop}:∀{l:List α},l.Pairwise R→∀x∈l,∀y∈l,x=y∨R x y∨R y x
 |[],_,_,hx,_,_=>by cases hx
 |z::l,h,x,hx,y,hy=>by
  rw[dQ] at h;rcases dm.1 hx with hx|hx
  ·rcases dm.1 hy with hy|hy
   ·exact .inl (hx.trans hy.symm)
   ·rw[hx]; exact .inr (.inl (h.1 y hy))
  ·rcases dm.1 hy with hy|hy
   ·rw[hy]; exact .inr (.inr (h.1 x hx))
   ·exact aiF h.2 x hx y hy
def ap5 {E:Env ρ} {call:List Nat→Bool→Nat→List AV→List Blk→(AV→List Blk→Option ρ)→Option ρ} {L:Nat} (hE:mB E L call) {fid:Nat} {path:List Nat} {ops:Array Oper} (hp:path.length+1=L) (hg:tc ops.toList ops.toList=true)
 (hd:anu E ops.toList=true) {base:Nat} {K:St→Option ρ} {r:ρ} {Q:Exit→Act→World→Prop} {m:Nat} (hmb:m≤base) :
 ∀(fuel:Nat) (listed:Array Bool) (acc:List (Nat×List Nat)) (S:St) (a:Act) (ν:Nat→Value) (w:World),listed.size=ops.size →
  (∀j i,listed.getD j false=true→((Τ ops.toList []).getD j 0).testBit i=true→listed.getD i false=true) →
  ((oV E.clone ops.toList 0 base).filter fun x=>!listed.getD x.1 true).length=fuel→Sim ν S a w →
  (∀x∈(oV E.clone ops.toList 0 base).filter fun x=>!listed.getD x.1 true,đ E.clone x.2.2.op=true→x.2.1<S.h.length∧lkB S.h x.2.1=.dead)→m≤S.h.length →
  aix E call fid path ops.toList (Τ ops.toList []) ((oV E.clone ops.toList 0 base).filter fun x=>!listed.getD x.1 true) acc S K=some r →
  (∀ν' S' a' w',Sim ν' S' a' w'→Ev m ν S.h w ν' S'.h w'→m≤S'.h.length→Dd m S.h S'.h→K S'=some r→Q .normal a' w') →
  wpAnyIn fen 0 E.P .any ops Q fuel listed a w:=by
 simp only[anu,dh] at hd;obtain⟨hback,hdr⟩:=hd
 have getD_tf:∀{listed:Array Bool} {j:Nat},listed.size=ops.size→j<ops.size→listed.getD j true=listed.getD j false:=fun {listed j} hs hj=>by
  have:j<listed.size:=by omega
  simp[this]
 have hpw:=(Lz (clone:=E.clone) (os:=ops.toList) (i:=0) (nid:=base)).imp fun {x y} h=>h.1;intro fuel
 induction fuel with
 |zero =>
  intro listed acc S a ν w hsz hcl hlen H hdead hm e hQ;have hnil:=dA.1 hlen;refine⟨?_,?_⟩
  ·rw[List.eq_nil_iff_forall_not_mem];intro j hj;obtain⟨h0,o,ho,_⟩:=mem_ready.1 hj;obtain⟨n,hn⟩:=IV (clone:=E.clone) (i:=0) (nid:=base) (os:=ops.toList) (k:=j) (o:=o) (by simpa using ho);have:(0+j,n,o)∈(oV E.clone ops.toList 0 base).filter fun x=>!listed.getD x.1 true:=fS.2 ⟨hn,by simp only[dC]; rw[h0]; rfl⟩;rw[hnil] at this;cases this
  ·rw[hnil] at e;exact hQ ν S a w H (Ev.refl _ _ _ _) hm (Dd.refl _ _) e
 |succ fuel ih =>
  intro listed acc S a ν w hsz hcl hlen H hdead hm e hQ;refine⟨fun hr=>?_,fun j hj=>?_⟩
  ·-- the first of those that are left is ready
   exfalso
   cases hrem:(oV E.clone ops.toList 0 base).filter fun x=>!listed.getD x.1 true with
   |nil=>rw[hrem] at hlen; simp at hlen
   |cons x l =>
    have hx:x∈(oV E.clone ops.toList 0 base).filter fun x=>!listed.getD x.1 true:=by rw[hrem]; simp
    rw[fS] at hx;obtain⟨k,h1,h2,_⟩:=rj hx.1
    have hk:x.1=k:=by omega
    have hready:x.1∈Region.ready .any ops listed:=mem_ready.2 ⟨by simpa using hx.2,x.2.2,by rw[hk]; simpa using h1,fun ed hed hb=>by
     have hlt:=xJ hback k x.2.2 h1 ed hed hb
     have hks:k<ops.size:=by
      have:=(dj.1 h1).1;simpa using this
     cases hl:listed.getD ed.on false with
     |true=>rfl
     |false =>
      exfalso;obtain⟨o',ho'⟩:∃o',ops.toList[ed.on]?=some o':=⟨_,df (by simp; omega)⟩;obtain⟨n,hn⟩:=IV (clone:=E.clone) (i:=0) (nid:=base) ho'
      have hin:(0+ed.on,n,o')∈x::l:=by
       rw[←hrem];refine fS.2 ⟨hn,?_⟩;simp only[dC];rw[getD_tf hsz (by omega),hl];rfl
      have hpl:(x::l).Pairwise fun x y=>x.1<y.1:=by rw[←hrem]; exact hpw.filter _
      rcases dm.1 hin with h3|h3
      ·rw[←h3] at hk; simp at hk; omega
      ·have:=(dQ.1 hpl).1 _ h3
       simp only at this; omega⟩
    rw[hr] at hready;cases hready
  ·obtain⟨h0,o,ho,hed⟩:=mem_ready.1 hj;have hjs:j<ops.size:=(eG.1 ho).1
   have hol:ops.toList[j]?=some o:=by simpa using ho
   obtain⟨n,hn⟩:=IV (clone:=E.clone) (i:=0) (nid:=base) hol;rw[dC] at hn
   have hpp:∀x∈oV E.clone ops.toList 0 base,(fun x:Item=>!(listed.setIfInBounds j true).getD x.1 true) x=((fun x:Item=>!listed.getD x.1 true) x&&x.1 != j):=fun x hx=>by
    by_cases hxj:x.1=j
    ·simp only[hxj]
     have:j<listed.size:=by omega
     simp[this]
    ·have h1:(listed.setIfInBounds j true).getD x.1 true=listed.getD x.1 true:=getD_set_ne true (Ne.symm hxj)
     have h2:(x.1 != j)=true:=by simpa using hxj
     simp only[h1,h2,gX]
   obtain⟨as,rest,f1,f2,f3⟩:=akE (b:=(j,n,o)) hpw hn (by simp only[h0]; rfl) hpp
   have hbit:∀i,((Τ ops.toList []).getD j 0).testBit i=true→listed.getD i false=true:=fun i hi=>by
    rw[aof hol] at hi;rcases aa2 _ _ hi with hz|⟨ed,h1,h2,h3⟩
    ·simp at hz
    ·have hl:=hed ed (by simpa using h1) h2;rcases h3 with rfl|h3
     ·exact hl
     ·refine hcl ed.on i hl ?_;have hlt:=xJ hback j o hol ed (by simpa using h1) h2;rw[←h3];congr 1;simp only[List.getD,eO];rw[if_pos (by omega)]
   have hpairs:=Lz (clone:=E.clone) (os:=ops.toList) (i:=0) (nid:=base)
   have hmemj:((j,n,o):Item)∈(oV E.clone ops.toList 0 base).filter fun x=>!listed.getD x.1 true:=by rw[f1]; simp
   have hne:∀x∈(oV E.clone ops.toList 0 base).filter (fun x=>!listed.getD x.1 true),x≠(j,n,o)→đ E.clone x.2.2.op=true→đ E.clone o.op=true→x.2.1≠n:=fun x hx hxj h1 h2=>by
    have hsub:((oV E.clone ops.toList 0 base).filter fun x=>!listed.getD x.1 true).Pairwise fun x y=>x.1<y.1∧(đ E.clone x.2.2.op=true→x.2.1<y.2.1):=hpairs.filter _;rcases aiF hsub x hx _ hmemj with he|hr|hr
    ·exact absurd he hxj
    ·exact fR (hr.2 h1)
    ·exact(fR (hr.2 h2)).symm
   rw[f1] at e
   have e':=arh (b:=(j,n,o)) (h0:=S.h) (t0:=S.t) (K:=K) (r:=r) hE.pureEq as acc S.t S.h (fun x hx=>by
    obtain⟨g1,g2,g3⟩:=f3 x hx;obtain⟨k,h1,h2,_⟩:=rj g1
    have hk:x.1=k:=by omega
    have hkj:k<j:=by simp only at g3; omega
    have hnb:((Τ ops.toList []).getD j 0).testBit k=false:=by
     cases hb:((Τ ops.toList []).getD j 0).testBit k with
     |false=>rfl
     |true =>
      exfalso;have hl:=hbit k hb;simp only[ff] at g2;rw[getD_tf hsz (by omega),hk,hl] at g2;cases g2
    have hnb2:((Τ ops.toList []).getD k 0).testBit j=false:=by
     cases hb:((Τ ops.toList []).getD k 0).testBit j with
     |false=>rfl
     |true=>have:=bef_lt hback k j hb; omega
    have:=Bk hdr j o hol k x.2.2 (by omega) h1;rw[dC,hnb] at this;rw[←hk] at h1 hnb hnb2
    exact ahP (this.resolve_right (by simp)) h1 hol hnb hnb2)
    (fun _ _=>rfl)
    (fun hal=>(hdead _ hmemj hal).2)
    (fun x hx h1 h2=>hne x (by rw[f1]; simp[hx]) (fun he=>by
     have:=(f3 x hx).2.2;rw[he] at this
     simp at this) h1 h2)
    (fun x hx h1 y hy hmem=>VR.refs2 H.heap (ŏ H y) _ hmem ((hdead x (by rw[f1]; simp[hx]) h1).2)) (fun _ _ _ _ _=>.inl rfl) e
   simp only[aix,yw] at e'
   split at e'<;>try (cases e'; done)
   refine Pe hE.call hE.plain hE.clone hg hp ho H (fun hal=>hdead _ hmemj hal) e' fun ν' w' u v S' g1 g2 g3 g4 g5 g6 g7=>?_;have hrem:((oV E.clone ops.toList 0 base).filter fun x=>!(listed.setIfInBounds j true).getD x.1 true)=as++rest:=f2
   have hin:∀x∈as++rest,x∈(oV E.clone ops.toList 0 base).filter fun x=>!listed.getD x.1 true:=fun x hx=>by
    rw[f1]
    rcases dk.1 hx with hx|hx<;>simp[hx]
   have hnj:∀x∈as++rest,x≠(j,n,o):=fun x hx he=>by
    rw[←hrem,fS] at hx;rw[he] at hx
    have hlt:j<listed.size:=by omega
    simp[hlt] at hx
   have hm':m≤S'.h.length:=dL hm g4;refine ih (listed.setIfInBounds j true) ((j,yL E ops.toList o S)::acc) {t:=ÿ S'.t o.dst v,h:=S'.h} _ ν' w' (by simpa using hsz) (fun j' i h1 h2=>?_) ?_ ?_ (fun x hx hal=>?_) hm' ?_ fun ν'' S'' a'' w'' q1 q2 q3 q4 q5=>hQ ν'' S'' a'' w'' q1 ((g3.mono hm).trans q2 (dg _)) q3 (fun i hi hdi=>q4 i hi ?_) q5
   ·by_cases hjj:j=j'
    ·subst hjj;exact getD_set_true (hbit i h2)
    ·rw[getD_set_ne false hjj] at h1;exact getD_set_true (hcl j' i h1 h2)
   ·rw[hrem];rw[f1] at hlen;simp only[di,dn] at hlen ⊢;omega
   ·rw[g6];exact H.put g3 g2 o.dst g1
   ·rw[hrem] at hx;obtain⟨h1,h2⟩:=hdead x (hin x hx) hal;refine⟨by simp only; omega,g5 _ h1 ?_ h2⟩
    by_cases hob:đ E.clone o.op=true
    ·exact .inl (hne x (hin x hx) (hnj x hx) hal hob)
    ·exact .inr (by simpa using hob)
   ·rw[hrem];exact g7
   ·refine g5 i (by omega) ?_ hdi
    by_cases hob:đ E.clone o.op=true
    ·left;obtain⟨k,_,_,h3,_⟩:=rj hn;simp only at h3;show i≠n;omega
    ·exact .inr (by simpa using hob)
def FX {E:Env ρ} (hmix:E.P.follows .mixedOrders=true) (L:Nat) (call:List Nat→Bool→Nat→List AV→List Blk→(AV→List Blk→Option ρ)→Option ρ) (hE:mB E L call):mV E L call:=by
 intro fid rid path ops S a K r m ν w hp e H hm;unfold Po at e
 split at e<;>try (cases e; done)
 rename_i hg;simp only[dW,Bool.or_eq_false_iff,fB] at hg;apply wpIn_region_any hmix;have hpre:=fun id=>aaQ S.h (iZ E.clone ops.toList) id;have H1:Sim ν {t:=S.t,h:=S.h++List.replicate (iZ E.clone ops.toList) .dead} a {w with drawn:=w.drawn+1}:=H.same hpre rfl rfl rfl rfl;have ev0:Ev m ν S.h w ν (S.h++List.replicate (iZ E.clone ops.toList) .dead) {w with drawn:=w.drawn+1}:=Ev.same (w:=w) (w':={w with drawn:=w.drawn+1}) hpre rfl rfl rfl rfl m
 have hall:((oV E.clone ops.toList 0 S.h.length).filter fun x=>!(Array.replicate ops.size false).getD x.1 true)=oV E.clone ops.toList 0 S.h.length:=by
  rw[List.filter_eq_self];intro x hx;obtain⟨k,h1,h2,_⟩:=rj hx
  have hlt:k<ops.size:=by
   have:=(dj.1 h1).1;simpa using this
  have:x.1=k:=by omega
  simp[this,hlt]
 have hlen:∀(os:List Oper) (i nid:Nat),(oV E.clone os i nid).length=os.length:=by
  intro os
  induction os with
  |nil=>intros; rfl
  |cons o os ih=>intro i nid; simp[oV,ih]
 refine ap5 (fid:=fid) (base:=S.h.length) (K:=K .normal) (r:=r) hE hp hg.2 hg.1 hm ops.size _ [] {t:=S.t,h:=S.h++List.replicate (iZ E.clone ops.toList) .dead} a ν _ (by simp) (fun j i h1 _=>?_) ?_ H1 (fun x hx hal=>?_) ?_ ?_ fun ν' S' a' w' g1 g2 g3 g4 g5=>⟨ν',S',g1,ev0.trans g2 (dg _),g3,fun j hj hd=>g4 j hj (by simp only[hpre]; exact hd),g5⟩
 ·exfalso;rcases dG j ops.size with h|h
  ·simp[h] at h1
  ·simp[h] at h1
 ·rw[hall,hlen]; simp
 ·rw[hall] at hx;obtain⟨k,_,_,h3,h4⟩:=rj hx;have:=h4 hal;refine⟨by simp; omega,?_⟩;simp only[hpre];exact W5 _ _ h3
 ·simp; omega
 ·rw[hall,←acI];exact e
end
end Go.Am
end

noncomputable section
namespace Go.Am
variable [ø]
section
variable {ρ:Type} {ν ν':Nat→Value} {h h':List Blk} {w w':World} {P:Program}
structure Ø (ρ:Type) where
 path:List Nat
 fid:Nat
 bid:Nat
 L:Æ
 bF:Val (tyL L.cs)→Val (tyL L.vs)→(Val (tyL L.vs)→Option ρ)→((i:Nat)→Val (tyL (L.zs i))→Option ρ)→Option ρ
def eqL:List Nat→List Nat→Bool
 |[],[]=>true
 |a::l,b::m=>Nat.beq a b&&eqL l m
 |_,_=>false
def ank (S:St):List (Ø ρ)→List Nat→Nat→Nat→Option (Ø ρ)
 |[],_,_,_=>none
 |x::l,path,fid,bid=>match Nat.beq x.bid bid&&(Nat.beq x.fid fid&&(eqL x.path path&&fitsS x.L S)) with
  |true=>some x
  |false=>ank S l path fid bid
def s9 (tab:List (Ø ρ)) (path:List Nat) (fid bid m:Nat) (S:St) (K:Exit→St→Option ρ):Option ρ :=
 match ank S tab path fid bid with
 |some x=>agh x.L x.bF m S K
 |none=>none
structure JEnt where
 path:List Nat
 fid:Nat
 rid:Nat
 pin:Nat
 tpl:Tpl
 vs:List Ty
def akD:List (Nat×Ö)→Nat→Option Ö
 |[],_=>none
 |x::l,f=>match Nat.beq x.1 f with
  |true=>some x.2
  |false=>akD l f
def LC:List (Nat×Nat)→Nat→Option Nat
 |[],_=>none
 |x::l,s=>match Nat.beq x.1 s with
  |true=>some x.2
  |false=>LC l s
def pm (P:Program) (f:Nat):Option Code :=
 match P.funcs[f]? with
 |some fn=>fn.body
 |none=>none
structure Ø.Ok (E:Env ρ) (x:Ø ρ):Prop where
 one:(((pm E.P x.fid).elim [] (í 0)).filter fun y=>Nat.beq y.1 x.bid).length=1
 law:∀p v kn kx,goC E (kr E (10-x.path.length / 2)) x.fid x.path x.L.pin x.bid (IR (pm E.P x.fid) x.bid) (jA x.L.head x.L.cs x.L.vs p v) (XM x.L kn kx)=x.bF p v (kn p) (fun i=>kx i p)
omit [ø] in
def anm:∀{l m:List Nat},eqL l m=true→l=m
 |[],[],_=>rfl
 |a::l,b::m,h=>by
  simp only[eqL,dh] at h;rw[du h.1,anm h.2]
 |[],_::_,h=>by cases h
 |_::_,[],h=>by cases h
omit [ø] in
def Xr:∀{tab:List (Ø ρ)} {path:List Nat} {fid bid:Nat} {S:St} {x:Ø ρ},ank S tab path fid bid=some x→x∈tab∧x.path=path∧x.fid=fid∧x.bid=bid
 |[],_,_,_,_,_,h=>by cases h
 |y::tab,path,fid,bid,S,x,h=>by
  unfold ank at h
  split at h
  ·rename_i hb;simp only[dh] at hb;cases h;exact⟨by simp,anm hb.2.2.1,du hb.2.1,du hb.1⟩
  ·obtain⟨h1,h2⟩:=Xr h;exact⟨by simp[h1],h2⟩
omit [ø] in
def Xq:∀{tab:List (Nat×Ö)} {f:Nat} {p:Ö},akD tab f=some p→(f,p)∈tab
 |[],_,_,h=>by cases h
 |y::tab,f,p,h=>by
  unfold akD at h
  split at h
  ·rename_i hb;cases h;rw[←du hb]; simp
  ·exact eR _ (Xq h)
omit [ø] in
def jd:∀(c:Code) (b0:Nat) {bid:Nat} {b:Code},(bid,b)∈í b0 c→∀y∈í bid b,y∈í b0 c
 |.seq c d,b0,bid,b,h,y,hy=>by
  simp only[í,dk] at h ⊢;exact h.imp (fun h=>jd c b0 h y hy) (fun h=>jd d b0 h y hy)
 |.cond _ c d,b0,bid,b,h,y,hy=>by
  simp only[í,dk] at h ⊢;exact h.imp (fun h=>jd c b0 h y hy) (fun h=>jd d b0 h y hy)
 |.block id c,b0,bid,b,h,y,hy=>by
  simp only[í] at h ⊢;exact jd c id h y hy
 |.loop c,b0,bid,b,h,y,hy=>by
  simp only[í,dm,Prod.mk.injEq] at h ⊢;rcases h with⟨rfl,rfl⟩|h
  ·exact .inr hy
  ·exact .inr (jd c b0 h y hy)
 |.skip,_,_,_,h,_,_=>by cases h
 |.region ..,_,_,_,h,_,_=>by cases h
 |.exit _,_,_,_,h,_,_=>by cases h
 |.ret,_,_,_,h,_,_=>by cases h
 |.label _,_,_,_,h,_,_=>by cases h
 |.goto _,_,_,_,h,_,_=>by cases h
 |.rangeFunc ..,_,_,_,h,_,_=>by cases h
 |.scope c,b0,bid,b,h,y,hy=>by
  simp only[í] at h ⊢;exact jd c b0 h y hy
 |.refuse _,_,_,_,h,_,_=>by cases h
omit [ø] in
def iV:∀(c:Code) (b0:Nat) {bid:Nat} {b:Code},(bid,b)∈í b0 c→SizeOf.sizeOf b<SizeOf.sizeOf c
 |.seq c d,b0,bid,b,h=>by
  simp only[í,dk] at h;rcases h with h|h
  ·have:=iV c b0 h; simp; omega
  ·have:=iV d b0 h; simp; omega
 |.cond _ c d,b0,bid,b,h=>by
  simp only[í,dk] at h;rcases h with h|h
  ·have:=iV c b0 h; simp; omega
  ·have:=iV d b0 h; simp; omega
 |.block id c,b0,bid,b,h=>by
  have:=iV c id h; simp; omega
 |.loop c,b0,bid,b,h=>by
  simp only[í,dm,Prod.mk.injEq] at h;rcases h with⟨rfl,rfl⟩|h
  ·simp
  ·have:=iV c b0 h; simp; omega
 |.skip,_,_,_,h=>by cases h
 |.region ..,_,_,_,h=>by cases h
 |.exit _,_,_,_,h=>by cases h
 |.ret,_,_,_,h=>by cases h
 |.label _,_,_,_,h=>by cases h
 |.goto _,_,_,_,h=>by cases h
 |.rangeFunc ..,_,_,_,h=>by cases h
 |.scope c,b0,bid,b,h=>by
  have:=iV c b0 h; simp; omega
 |.refuse _,_,_,_,h=>by cases h
def IT {E:Env ρ} {tab:List (Ø ρ)} (hE:E.loops=s9 tab) (hok:∀x∈tab,x.Ok E) {n:Nat} (hn:n≤10) (hEnv:mB E (22-2*n) (kr E n)) (hD:mV E (22-2*n) (kr E n))
 {path:List Nat} {f:Nat} {fn:Func} {c:Code} (hp:path.length+2=22-2*n) (hf:E.P.funcs[f]?=some fn) (hc:fn.body=some c):∀x∈í 0 c,rL E path f x.1 x.2:=by
 have hbody:pm E.P f=some c:=by simp only[pm,hf,hc]
 have key:∀(N:Nat) (x:Nat×Code),SizeOf.sizeOf x.2<N→x∈í 0 c→rL E path f x.1 x.2:=by
  intro N
  induction N with
  |zero=>intro x h; omega
  |succ N ih =>
   intro⟨bid,b⟩ hN hx;have hin:∀y∈í bid b,rL E path f y.1 y.2:=fun y hy=>ih y (by have:=iV b bid (bid:=y.1) (b:=y.2) hy; simp only at hN; omega) (jd c 0 hx y hy);intro m S K r ν a w e H hm;rw[hE] at e;unfold s9 at e
   cases hfe:ank S tab path f bid with
   |none =>
    rw[hfe] at e;cases e
   |some x =>
    obtain⟨h1,h2,h3,h4⟩:=Xr hfe;obtain⟨hone,hlaw⟩:=hok x h1;subst h3 h4;rw[hbody] at hone hlaw;simp only[Option.elim] at hone
    have hb:IR (some c) x.bid=b:=by
     have hmem:(x.bid,b)∈(í 0 c).filter fun y=>Nat.beq y.1 x.bid:=List.mem_filter.2 ⟨hx,by simp⟩;obtain⟨z,hz⟩:=List.length_eq_one_iff.1 hone;rw[hz,List.mem_singleton] at hmem;unfold IR;simp only
     cases hfd:(í 0 c).find? fun y=>y.1==x.bid with
     |none =>
      have:=eT.1 hfd _ hx;simp at this
     |some y =>
      have hy1:=gN hfd;have hy2:=gw hfd;have:y∈(í 0 c).filter fun y=>Nat.beq y.1 x.bid:=fS.2 ⟨hy1,by simpa using hy2⟩;rw[hz,dt] at this;rw[this,←hmem]
    rw[hb] at hlaw
    have hd:10-x.path.length / 2=n:=by rw[h2]; omega
    rw[hd,h2] at hlaw;rw[←h2] at hlaw;rw[hfe] at e;exact apH (path:=x.path) match_ok hEnv hD (by rw[h2]; omega) (by rw[h2]; exact hin) x.L x.bF (fun p v kn kx=>hlaw p v kn kx) e H hm
 exact fun x hx=>key _ x (Nat.lt_succ_self _) hx
def ah9 (E:Env ρ):Prop:=∀n,n≤10→mB E (22-2*n) (kr E n)→mV E (22-2*n) (kr E n)→∀(path:List Nat) (f:Nat) (fn:Func) (c:Code),path.length+2=22-2*n→E.P.funcs[f]?=some fn→fn.body=some c→∀x∈í 0 c,rL E path f x.1 x.2
structure aoR where
 path:List Nat
 fid:Nat
 bid:Nat
 n:Nat
def apY:List aoR→List Nat→Nat→Nat→Option aoR
 |[],_,_,_=>none
 |x::l,path,fid,bid=>match Nat.beq x.bid bid&&(Nat.beq x.fid fid&&eqL x.path path) with
  |true=>some x
  |false=>apY l path fid bid
def aeM (E0:Env ρ) (us:List aoR) (path:List Nat) (fid bid m:Nat) (S:St) (K:Exit→St→Option ρ):Option ρ :=
 match apY us path fid bid with
 |some u=>XI (fun S K=>goC E0 (kr E0 (10-u.path.length / 2)) u.fid u.path m u.bid (IR (pm E0.P u.fid) u.bid) S K) u.n S K
 |none=>E0.loops path fid bid m S K
omit [ø] in
def Xp:∀{tab:List aoR} {path:List Nat} {fid bid:Nat} {x:aoR},apY tab path fid bid=some x→x∈tab∧x.path=path∧x.fid=fid∧x.bid=bid
 |[],_,_,_,_,h=>by cases h
 |y::tab,path,fid,bid,x,h=>by
  unfold apY at h
  split at h
  ·rename_i hb;simp only[dh] at hb;cases h;exact⟨by simp,anm hb.2.2,du hb.2.1,du hb.1⟩
  ·obtain⟨h1,h2⟩:=Xp h;exact⟨by simp[h1],h2⟩
def Mc {E:Env ρ} {call:List Nat→Bool→Nat→List AV→List Blk→(AV→List Blk→Option ρ)→Option ρ} {N:Nat} (hE:mB E N call) (hD:mV E N call) {fid bid m:Nat} {path:List Nat} (hpath:path.length+2=N) {b:Code}
 (hin:∀x∈í bid b,rL E path fid x.1 x.2) {K:Exit→St→Option ρ} {r:ρ} {h₀:List Blk} {ν₀:Nat→Value} {w₀:World}:∀(n:Nat) (S:St) (ν:Nat→Value) (a:Act) (w:World),XI (fun S K=>goC E call fid path m bid b S K) n S K=some r→Sim ν S a w→m≤S.h.length→Ev m ν₀ h₀ w₀ ν S.h w→Dd m h₀ S.h →
  Code.roundsIn fen 0 E.P b (alp m ν₀ h₀ w₀ K r) n a w
 |0,S,ν,a,w,e,_,_,_,_=>by cases e
 |n+1,S,ν,a,w,e,H,hm,ev,dd=>by
  rw[roundsIn_succ];simp only[XI] at e;refine wpIn_mono (mi hE hD hpath b bid S _ ν a w hin e H hm) fun x a₂ w₂ ha=>?_;obtain⟨ν₂,S₂,H2,ev2,hp2,dd2,hk⟩:=ha;have ev12:=ev.trans ev2 (dg m);have dd12:=dd.trans dd2 (dg m)
  cases x with
  |normal=>exact Mc hE hD hpath hin n S₂ ν₂ a₂ w₂ hk H2 hp2 ev12 dd12
  |exit id=>exact⟨ν₂,S₂,H2,ev12,hp2,dd12,hk⟩
  |ret=>exact⟨ν₂,S₂,H2,ev12,hp2,dd12,hk⟩
  |goto l=>exact⟨ν₂,S₂,H2,ev12,hp2,dd12,hk⟩
  |panic ch=>exact⟨ν₂,S₂,H2,ev12,hp2,dd12,hk⟩
  |outgrown=>exact⟨ν₂,S₂,H2,ev12,hp2,dd12,hk⟩
def amI {c:Code} {bid:Nat} {b:Code} (hone:((í 0 c).filter fun y=>Nat.beq y.1 bid).length=1) (hx:(bid,b)∈í 0 c):IR (some c) bid=b:=by
 have hmem:(bid,b)∈(í 0 c).filter fun y=>Nat.beq y.1 bid:=List.mem_filter.2 ⟨hx,by simp⟩;obtain⟨z,hz⟩:=List.length_eq_one_iff.1 hone;rw[hz,List.mem_singleton] at hmem;unfold IR;simp only
 cases hfd:(í 0 c).find? fun y=>y.1==bid with
 |none =>
  have:=eT.1 hfd _ hx;simp at this
 |some y =>
  have hy1:=gN hfd;have hy2:=gw hfd;have:y∈(í 0 c).filter fun y=>Nat.beq y.1 bid:=fS.2 ⟨hy1,by simpa using hy2⟩;rw[hz,dt] at this;rw[this,←hmem]
def amK {E E0:Env ρ} (hD0:Flat) (hlib0:OA E0) (hP:E0.P=E.P) (hmix:E0.P.follows .mixedOrders=true) (hl0:ah9 E0) {us:List aoR} (hE:E.loops=aeM E0 us)
 (hone:∀u∈us,(((pm E.P u.fid).elim [] (í 0)).filter fun y=>Nat.beq y.1 u.bid).length=1) {n:Nat} (hn:n≤10)
 {path:List Nat} {f:Nat} {fn:Func} {c:Code} (hp:path.length+2=22-2*n) (hf:E.P.funcs[f]?=some fn) (hc:fn.body=some c):∀x∈í 0 c,rL E path f x.1 x.2:=by
 have hdraw:∀L call,mB E0 L call→mV E0 L call:=FX hmix;have hcall:=nB (.inl hD0) hlib0 hdraw (fun n hn hEnv=>hl0 n hn hEnv (hdraw _ _ hEnv)) n hn
 have hEnv:mB E0 (22-2*n) (kr E0 n):=⟨by
  cases n with
  |zero=>exact .inl fun _ _ _ _ _ _=>rfl
  |succ n=>exact .inr (rI n),hcall,hlib0.plain,hlib0.clone,hlib0.joins⟩
 have hin:=hl0 n hn hEnv (hdraw _ _ hEnv) path f fn c hp (hP▸hf) hc
 have hbody:pm E.P f=some c:=by simp only[pm,hf,hc]
 intro⟨bid,b⟩ hx m S K r ν a w e H hm;rw[hE] at e;unfold aeM at e
 split at e
 ·rename_i u hu;obtain⟨h1,h2,h3,h4⟩:=Xp hu
  have hd:10-u.path.length / 2=n:=by rw[h2]; omega
  have h5:=hone u h1;rw[h3,h4,hbody] at h5;rw[hd,h2,h3,h4,hP,hbody,amI h5 hx] at e;have:=Mc hEnv (hdraw _ _ hEnv) hp (fun y hy=>hin y (jd c 0 hx y hy)) u.n S ν a w e H hm (Ev.refl _ _ _ _) (Dd.refl _ _);rw[hP] at this;exact wpIn_loop_rounds u.n this
 ·have:=hin (bid,b) hx m S K r ν a w e H hm
  rwa [hP] at this
def Yi (H:HR ν h w) {c:AV} {u:Value} (hu:VR1 ν h w c u):VRs w ø.G (ă h c) u:=F7 H (fun b hb=>.inr hb) hu fun id b _ hl hb=>H.ghne id b hl hb
def amc (H:HR ν h w) {id:Nat} {cs:List AV} (hl:lkB h id=.cells cs):(∀b,π (ν id) b→¬ø.G b)∧∀c∈cs,∀u,VR1 ν h w c u→VRs w ø.G (ă h c) u :=
 ⟨fun b hb=>H.ghne id b (by rw[hl]; rfl) hb,fun _ _ _ hu=>Yi H hu⟩
def Č.up2:∀{as:List AV} {vs:List Value},Č (Go.Am.VR2 ν h w) as vs→Č (Go.Am.VR ν h w) as vs
 |[],[],_=>trivial
 |_::_,_::_,h=>⟨h.1.up,Č.up2 h.2⟩
 |[],_::_,h=>h.elim
 |_::_,[],h=>h.elim
def XX (H:HR ν h w):∀(l:List Ty) {x:Val (tyL l)} {v:AV} {u:Value},VR ν h w v u→ą l h v=some x→RR w ø.G l x u
 |[],_,_,_,_,e=>by cases e
 |[t],x,v,u,hv,e=>abw H hv (fun _ _ _ hu=>Yi H hu) (fun _ _ _ hl=>amc H hl) (fun id _ _ hl b hb=>H.ghne id b hl hb) e
 |t::u'::l,x,v,u,hv,e=>by
  cases v with
  |tup as =>
   obtain⟨us,rfl,h2⟩:=hv;exact⟨us,rfl,Tv H (u'::l) t x as us.toList h2.up2 (fun _ _ _ _ _ hu=>Yi H hu) (fun _ _ _ _ _ hl=>amc H hl) (fun _ _ id _ _ hl b hb=>H.ghne id b hl hb) e⟩
  |_=>cases e
def AT.mono {G G':Nat→Prop} (hm:∀b,G' b→G b):∀{l:List Ty} {t:Ty} {x:Val (tys t l)} {vs:List Value},AT w G l t x vs→AT w G' l t x vs
 |[],t,x,vs,⟨v,h1,h2⟩=>⟨v,h1,h2.mono hm⟩
 |u::l,t,x,vs,⟨v,vs',h1,h2,h3⟩=>⟨v,vs',h1,h2.mono hm,AT.mono hm h3⟩
def AL.mono {G G':Nat→Prop} (hm:∀b,G' b→G b):∀{l:List Ty} {x:Val (tyL l)} {vs:List Value},AL w G l x vs→AL w G' l x vs
 |[],_,_,h=>h
 |_::_,_,_,h=>AT.mono hm h
def AL.VR:∀{l:List Ty} {x:Val (tyL l)} {vs:List Value},AL w (Av ν h) l x vs→Č (VR ν h w) (Ā l x) vs
 |[],_,_,h=>by cases h; trivial
 |_::_,_,_,h=>AT.VR h
end
omit [ø] in
def aiC {f:Nat} {p:Ö} (E:Env (Val (tyL p.rs))) (hlib:∀[ø],OA E) (hmix:E.P.follows .mixedOrders=true) (hl:∀[ø],Flat→ah9 E) (law:X0 p E f):jt E.P f p:=by
 intro G x y hF w vals hG hAL
 letI:ø:=⟨G,[],none⟩
 have hL:=law x;rw[hF] at hL;unfold Ĉ at hL;have hdraw:∀L call,mB E L call→mV E L call:=FX hmix;have hloops:=hl ⟨rfl,rfl⟩;have hcall:=nB (.inl ⟨rfl,rfl⟩) hlib hdraw (fun n hn hE=>hloops n hn hE (hdraw _ _ hE)) 10 (Nat.le_refl _);have hEnv:mB E (22-2*10) (kr E 10):=⟨.inr (rI 9),hcall,hlib.plain,hlib.clone,hlib.joins⟩;have H:HR (fun _=>undef) [] w:=⟨fun _=>trivial,fun _ _ _ h=>(by cases h),hG,fun _ _ h=>(by cases h)⟩;have hav:∀b,Av (fun _=>undef) [] b→G b:=fun b hb=>hb.elim (fun⟨_,h,_⟩=>by cases h) id;have hargs:Č (VR (fun _=>undef) [] w) (Ā p.ts x) vals:=AL.VR (hAL.mono hav);obtain⟨h1,h2⟩:=SV hEnv (hdraw _ _ hEnv) (path:=[]) rfl ⟨rfl,rfl⟩ (fun fn c hf hc=>hloops 10 (Nat.le_refl _) hEnv (hdraw _ _ hEnv) [] f fn c rfl hf hc) hL H hargs;refine⟨h1,h2.mono fun e w' hw=>?_⟩;obtain⟨ν',h',v,u,rfl,g1,g2,g3,g4,g5,g6⟩:=hw;refine⟨u,rfl,XX g2 _ g1 g6,fun b hb=>(g3.keep b hb fun⟨_,h,_⟩=>by cases h).1,g3.size,g3.os,g3.tape,g3.output⟩
omit [ø] in
def Gd {f:Nat} {p:Ö} (E:Env (Val (tyL p.rs))) (hlib:∀[ø],OA E) (hmix:E.P.follows .mixedOrders=true) {tab:List (Ø (Val (tyL p.rs)))} (hE:E.loops=s9 tab) (hok:∀x∈tab,x.Ok E) (law:X0 p E f):jt E.P f p :=
 aiC E hlib hmix (fun _ n hn hEnv hD path f fn c hp hf hc=>IT hE hok hn hEnv hD hp hf hc) law
omit [ø] in
def acf {f:Nat} {p:Ö} (E E0:Env (Val (tyL p.rs))) (hlib:∀[ø],OA E) (hlib0:∀[ø],OA E0) (hP:E0.P=E.P) (hmix:E.P.follows .mixedOrders=true) {tab:List (Ø (Val (tyL p.rs)))} (h0:E0.loops=s9 tab) (hok:∀x∈tab,x.Ok E0) {us:List aoR} (hE:E.loops=aeM E0 us)
 (hone:∀u∈us,(((pm E.P u.fid).elim [] (í 0)).filter fun y=>Nat.beq y.1 u.bid).length=1) (law:X0 p E f):jt E.P f p :=
 aiC E hlib hmix (fun hD0 n hn _ _ path f fn c hp hf hc=>amK hD0 hlib0 hP (hP▸hmix) (fun n hn hEnv hD path f fn c hp hf hc=>IT h0 hok hn hEnv hD hp hf hc) hE hone hn hp hf hc) law
omit [ø] in
def mY {p:Ö} {E:Env (Val (tyL p.rs))} {f:Nat} (h:∀x:Val (tyL p.ts),Ĉ E f (Ā p.ts x) (fun h v=>Ã (ą p.rs h v) some)=p.F x):X0 p E f:=fun x=>by
 rw[←h x];congr 1;funext h v;unfold Ã
 cases ą p.rs h v<;>rfl
omit [ø] in
def Å {α:Type} {Q:α→Prop}:∀x∈([]:List α),Q x:=fun _ h=>by cases h
omit [ø] in
def Á {α:Type} {Q:α→Prop} {a:α} {l:List α} (h:Q a) (hl:∀x∈l,Q x):∀x∈a::l,Q x:=fun x hx=>by
 rcases dm.1 hx with rfl|hx
 ·exact h
 ·exact hl x hx
end Go.Am
end

noncomputable section
namespace Go.Am
open Go.ChangeShapes Go.WideShapes Go.ChangeAt Go.RowKit
abbrev arT:Nat→Prop:=fun _=>False
def Rng:(t:Ty)→Val t→Prop
 |.int .i64,n=>-9223372036854775808≤(n:Int)∧(n:Int)≤9223372036854775807
 |.pair a b,x=>Rng a (x:Val a×Val b).1∧Rng b (x:Val a×Val b).2
 |.slice t,l=>∀x∈(l:List (Val t)),Rng t x
 |_,_=>True
mutual
def aoO (P:Program):Nat→Ty→TypeId→Bool
 |0,_,_=>false
 |n+1,τ,t =>
  match P.underlying t with
  |some .bool=>match τ with
   |.bool=>true
   |_=>false
  |some (.int k)=>match τ with
   |.int k'=>k==k'
   |_=>false
  |some .string=>match τ with
   |.str=>true
   |_=>false
  |some (.slice e)=>match τ with
   |.slice u=>aoO P n u e&&(Nat.beq (P.cellsOf e) u.size&&Nat.ble 1 u.size)
   |_=>false
  |some (.struct fs)=>Nat.beq (P.cellsOf t) τ.size&&(τ.isAgg&&fieldsAre P n τ 0 fs.toList)
  |_=>false
def fieldsAre (P:Program):Nat→Ty→Nat→List Field→Bool
 |0,_,_,_=>false
 |n+1,τ,off,[f]=>Nat.beq f.offset off&&(Nat.beq (P.cellsOf f.type) τ.size&&aoO P n τ f.type)
 |n+1,.pair a b,off,f::g::fs=>Nat.beq f.offset off&&(Nat.beq (P.cellsOf f.type) a.size&&(aoO P n a f.type&&fieldsAre P n b (off+a.size) (g::fs)))
 |_,_,_,_=>false
end
def Ys {α β:Type} {f:α→Option β}:∀{l:List α} {ys:List β},l.mapM f=some ys→∀a∈l,∃y,f a=some y
 |[],ys,_,a,ha=>by cases ha
 |b::l,ys,h,a,ha=>by
  rw[List.mapM_cons] at h
  cases hb:f b with
  |none=>rw[hb] at h; cases h
  |some y =>
   rw[hb] at h
   cases hl:l.mapM f with
   |none=>simp[hl] at h
   |some zs =>
    rcases dm.1 ha with rfl|ha
    ·exact⟨y,hb⟩
    ·exact Ys hl a ha
def S9 {α:Type} {Q:Nat→α→Prop}:∀n:Nat,(∀i,i<n→∃x,Q i x)→∃xs:List α,xs.length=n∧∀i x,xs[i]?=some x→Q i x
 |0,_=>⟨[],rfl,fun i x h=>by simp at h⟩
 |n+1,h=>by
  obtain⟨xs,h1,h2⟩:=S9 n fun i hi=>h i (by omega);obtain⟨x,hx⟩:=h n (by omega);refine⟨xs++[x],by simp[h1],fun i y hy=>?_⟩;rcases dG i n with hi|hi
  ·rw[gO (by omega)] at hy; exact h2 i y hy
  ·rw[gJ (by omega),h1] at hy
   have:i=n:=by
    rcases dG 0 (i-n) with h0|h0
    ·rw[f0 (by simp; omega)] at hy; cases hy
    ·omega
   subst this;simp at hy;rw[←hy]; exact hx
section
variable {H:Type} {enc:TypeId×Value→H} {P:Program} {w:World} {sp:Nat→Bool} {held:Bool}
def aql {base:Nat} {a:Addr} {n:Nat} {cs:List Value} (h:w.cells? base a n=some cs) (hs:a.spot=none):Ň w a.block a.off cs:=by
 obtain⟨_,hl,hc⟩:=World.cells?_some h;intro j v hj;have hjl:j<cs.length:=(dj.1 hj).1;have:=hc j (by omega);rw[hj] at this;rw[←this];congr 1;obtain⟨b,o,s⟩:=a;simp only at hs;subst hs;exact(add_plain b o j).symm
def ajK (enc:TypeId×Value→H) (P:Program) (w:World) (sp:Nat→Bool) (held:Bool) (n:Nat):Prop :=
 ∀(τ:Ty) (t:TypeId) (fuel:Nat) (cs:List Value) (d:DataW H) (ps:List MemPlace),aoO P n τ t=true→DataW.trod enc P w 0 sp held fuel t cs=some (d,ps)→∃x:Val τ,CR w arT τ x cs∧Rng τ x
def O8 (enc:TypeId×Value→H) (P:Program) (w:World) (sp:Nat→Bool) (held:Bool) (n:Nat):Prop :=
 ∀(τ:Ty) (off:Nat) (fs:List Field) (fuel:Nat) (cs:List Value),fieldsAre P n τ off fs=true→(∀f∈fs,∃y,DataW.trod enc P w 0 sp held fuel f.type ((cs.drop f.offset).take (P.cellsOf f.type))=some y)→cs.length=off+τ.size→∃x:Val τ,CR w arT τ x (cs.drop off)∧Rng τ x
set_option maxHeartbeats 1000000 in
def alG {n:Nat} (A:ajK enc P w sp held n) (B:O8 enc P w sp held n):ajK enc P w sp held (n+1):=by
 intro τ t fuel cs d ps h e
 cases fuel with
 |zero=>simp[DataW.trod] at e
 |succ fuel =>
  unfold aoO at h;unfold DataW.trod at e
  split at h
  ·-- bool
   rename_i hu;rw[hu] at e
   cases τ<;>try (cases h; done)
   rcases cs with _|⟨c,_|⟨c2,cs⟩⟩<;>try first|(cases e; done)|(simp at e; done)
   cases c<;>try (cases e; done)
   rename_i b;exact⟨(show Val .bool from b),rfl,trivial⟩
  ·-- int
   rename_i k hu;rw[hu] at e
   cases τ<;>try (cases h; done)
   rename_i k'
   have hk:k=k':=by simpa using h
   subst hk
   rcases cs with _|⟨c,_|⟨c2,cs⟩⟩<;>try first|(cases e; done)|(simp at e; done)
   cases c<;>try (cases e; done)
   rename_i k2 m;simp only at e
   split at e<;>try (cases e; done)
   rename_i hc;obtain⟨rfl,hwf⟩:=hc;refine⟨(show Val (.int k2) from m),rfl,?_⟩
   cases k2<;>try trivial
   simp only[Lit.wf,dh,decide_eq_true_eq] at hwf;exact hwf
  ·-- string
   rename_i hu;rw[hu] at e
   cases τ<;>try (cases h; done)
   rcases cs with _|⟨c,_|⟨c2,cs⟩⟩<;>try first|(cases e; done)|(simp at e; done)
   cases c<;>try (cases e; done)
   rename_i s;exact⟨(show Val .str from s),rfl,trivial⟩
  ·-- slice
   rename_i el hu;rw[hu] at e
   cases τ<;>try (cases h; done)
   rename_i u;simp only[dh] at h;obtain⟨h1,h2,h3⟩:=h;have hsz:P.cellsOf el=u.size:=du h2;have hpos:1≤u.size:=f6 h3
   rcases cs with _|⟨c,_|⟨c2,cs⟩⟩<;>try first|(cases e; done)|(simp at e; done)
   cases c<;>try (cases e; done)
   rename_i base len cap
   cases base with
   |none =>
    cases len<;>cases cap<;>try (cases e; done)
    exact⟨(show Val (.slice u) from[]),⟨none,0,rfl,dg _,.inl rfl⟩,fun x hx=>by cases hx⟩
   |some a =>
    simp only at e
    split at e<;>try (cases e; done)
    rename_i hb
    cases hm:(List.range len).mapM (fun i=>(w.cells? 0 (a.add (i*P.cellsOf el)) (P.cellsOf el)).bind (DataW.trod enc P w 0 sp held fuel el)) with
    |none=>rw[hm] at e; cases e
    |some ar0 =>
     clear e
     have each:∀i,i<len→∃x:Val u,∃us,w.cells? 0 (a.add (i*P.cellsOf el)) (P.cellsOf el)=some us∧CR w arT u x us∧Rng u x:=by
      intro i hi;obtain⟨y,hy⟩:=Ys hm i (fV.2 hi)
      cases hc:w.cells? 0 (a.add (i*P.cellsOf el)) (P.cellsOf el) with
      |none=>rw[hc] at hy; cases hy
      |some us =>
       rw[hc] at hy;obtain⟨d',ps'⟩:=y;obtain⟨x,g1,g2⟩:=A u el fuel us d' ps' h1 hy;exact⟨x,us,rfl,g1,g2⟩
     obtain⟨xs,hl,hx⟩:=S9 len each;refine⟨(show Val (.slice u) from xs),⟨some a,cap,by rw[hl],by rw[hl]; exact hb.2.1,?_⟩,fun x hxm=>?_⟩
     ·rcases fE len with h0|h0
      ·left; exact dA.1 (by rw[hl,h0])
      ·right;obtain⟨x0,us0,c0,_,_⟩:=each 0 h0;have hblk:=World.cells?_block c0 (by omega);obtain⟨_,l0,g0⟩:=World.cells?_some c0
       have hspot:a.spot=none:=by
        have h5:=g0 0 (by omega);obtain⟨v0,hv0⟩:∃v0,us0[0]?=some v0:=⟨us0[0],df (by omega)⟩;rw[hv0] at h5;simpa[Addr.add] using World.cell?_spot h5
       obtain⟨b,o,s⟩:=a;simp only at hspot;subst hspot;refine⟨b,o,rfl,id,by simpa[Addr.add] using hblk,fun i x hxi=>?_⟩;obtain⟨us,q1,q2,_⟩:=hx i x hxi;refine⟨us,q2,?_⟩;rw[add_plain] at q1;have:=aql q1 rfl;rw[hsz] at this;exact this
     ·obtain⟨i,hi,rfl⟩:=dz.1 hxm;obtain⟨us,_,_,g⟩:=hx i _ (df hi);exact g
  ·-- struct
   rename_i fs hu;rw[hu] at e;simp only[dh] at h;obtain⟨h1,_,h2⟩:=h;have hsz:P.cellsOf t=τ.size:=du h1;simp only at e
   split at e<;>try (cases e; done)
   rename_i hlen
   cases hm:fs.toList.mapM (fun f=>DataW.trod enc P w 0 sp held fuel f.type ((cs.drop f.offset).take (P.cellsOf f.type))) with
   |none=>rw[hm] at e; cases e
   |some xs =>
    have:=B τ 0 fs.toList fuel cs h2 (Ys hm) (by omega);simpa using this
  ·cases h
def ahB {n:Nat} (A:ajK enc P w sp held n) (B:O8 enc P w sp held n):O8 enc P w sp held (n+1):=by
 intro τ off fs fuel cs h hf hlen;rcases fs with _|⟨f,_|⟨g,fs⟩⟩
 ·simp[fieldsAre] at h
 ·unfold fieldsAre at h;simp only[Bool.and_eq_true] at h;obtain⟨h1,h2,h3⟩:=h;obtain⟨⟨d,ps⟩,hy⟩:=hf f (by simp);rw[Nat.eq_of_beq_eq_true h1,Nat.eq_of_beq_eq_true h2,List.take_of_length_le (by rw[List.length_drop]; omega)] at hy;exact A τ f.type fuel _ d ps h3 hy
 ·cases τ<;>try (simp[fieldsAre] at h; done)
  rename_i a b;unfold fieldsAre at h;simp only[Bool.and_eq_true] at h;obtain⟨h1,h2,h3,h4⟩:=h;obtain⟨⟨d,ps⟩,hy⟩:=hf f (by simp);rw[Nat.eq_of_beq_eq_true h1,Nat.eq_of_beq_eq_true h2] at hy;obtain⟨x,q1,q2⟩:=A a f.type fuel _ d ps h3 hy;simp only[Ty.size] at hlen;obtain⟨y,q3,q4⟩:=B b (off+a.size) (g::fs) fuel cs h4 (fun f' hf'=>hf f' (by simp[hf'])) (by omega);refine⟨(show Val (.pair a b) from(x,y)),⟨_,_,?_,q1,q3⟩,q2,q4⟩;rw[←List.drop_drop,List.take_append_drop]
def yP:∀n,ajK enc P w sp held n∧O8 enc P w sp held n
 |0=>⟨fun τ t fuel cs d ps h _=>by simp[aoO] at h,fun τ off fs fuel cs h _ _=>by simp[fieldsAre] at h⟩
 |n+1=>⟨alG (yP n).1 (yP n).2,ahB (yP n).1 (yP n).2⟩
def aio {n:Nat} {τ:Ty} {t:TypeId} {v:Value} {d:DataW H} {ps:List MemPlace} {r:Reach} {base:Nat} (ht:aoO P n τ t=true) (h:DataW.Trod enc P w 0 sp held t v d ps) (hv:Value.okWide P w r base t v):∃x:Val τ,lI w arT τ x v∧Rng τ x:=by
 obtain⟨fuel,hf⟩:=h;obtain⟨x,h1,h2⟩:=(yP n).1 τ t fuel _ d ps ht hf;refine⟨x,⟨_,h1,?_⟩,h2⟩
 cases n with
 |zero=>simp[aoO] at ht
 |succ n =>
  unfold aoO at ht;unfold Value.okWide at hv
  split at ht
  ·rename_i hu;rw[hu] at hv
   cases τ<;>try (cases ht; done)
   simp only[Cell.okWide,hu] at hv
   cases v<;>simp_all[Cell.ok,Value.cells,yM,Ty.isAgg]
  ·rename_i k hu;rw[hu] at hv
   cases τ<;>try (cases ht; done)
   simp only[Cell.okWide,hu] at hv
   cases v<;>simp_all[Cell.ok,Value.cells,yM,Ty.isAgg]
  ·rename_i hu;rw[hu] at hv
   cases τ<;>try (cases ht; done)
   simp only[Cell.okWide,hu] at hv
   cases v<;>simp_all[Cell.ok,Value.cells,yM,Ty.isAgg]
  ·rename_i el hu;rw[hu] at hv
   cases τ<;>try (cases ht; done)
   simp only[Cell.okWide,hu] at hv
   cases v<;>simp_all[Cell.ok,Value.cells,yM,Ty.isAgg]
  ·rename_i fs hu;rw[hu] at hv;obtain⟨cs,rfl,_,_⟩:=hv;simp only[dh] at ht;have hagg:τ.isAgg=true:=ht.2.1;simp[yM,hagg,Value.cells]
  ·cases ht
def CZ (P:Program):List Ty→List TypeId→Bool
 |[],[]=>true
 |τ::l,t::ts=>aoO P 40 τ t&&CZ P l ts
 |_,_=>false
def aip {r:Reach} {base:Nat}:∀(l:List Ty) (τ:Ty) (t:TypeId) (ts:List TypeId) (v:Value) (vs:List Value) (ds:List (DataW H)) (ps:List MemPlace),CZ P (τ::l) (t::ts)=true→DataW.TrodAll enc P w 0 sp held (t::ts) (v::vs) ds ps →
 (∀(j:Nat) t' v',(t::ts)[j]?=some t'→(v::vs)[j]?=some v'→Value.okWide P w r base t' v')→∃x:Val (tys τ l),AT w arT l τ x (v::vs)∧Rng (tys τ l) x
 |l,τ,t,ts,v,vs,[],ps,_,h,_=>by cases h
 |[],τ,t,ts,v,vs,d::ds,ps,hs,h,hv=>by
  obtain⟨p,q,h1,h2,_⟩:=h;simp only[CZ,dh] at hs
  have:ts=[]:=by cases ts with|nil=>rfl|cons=>simp[CZ] at hs
  subst this
  have hvs:vs=[]:=by cases vs with|nil=>rfl|cons=>exact h2.elim
  subst hvs;obtain⟨x,g1,g2⟩:=aio hs.1 h1 (hv 0 t v rfl rfl);exact⟨x,⟨v,rfl,g1⟩,g2⟩
 |u::l,τ,t,ts,v,vs,d::ds,ps,hs,h,hv=>by
  obtain⟨p,q,h1,h2,_⟩:=h;simp only[CZ,dh] at hs;obtain⟨x,g1,g2⟩:=aio hs.1 h1 (hv 0 t v rfl rfl);rcases ts with _|⟨t2,ts⟩
  ·simp[CZ] at hs
  ·rcases vs with _|⟨v2,vs⟩
   ·exact h2.elim
   ·obtain⟨y,g3,g4⟩:=aip l u t2 ts v2 vs ds q hs.2 h2 fun j t' v' a b=>hv (j+1) t' v' (by simpa using a) (by simpa using b);exact⟨(show Val (.pair τ (tys u l)) from(x,y)),⟨v,v2::vs,rfl,g1,g3⟩,g2,g4⟩
def aoY {r:Reach} {base:Nat} {l:List Ty} {ts:List TypeId} {vs:List Value} {ds:List (DataW H)} {ps:List MemPlace} (hs:CZ P l ts=true) (h:DataW.TrodAll enc P w 0 sp held ts vs ds ps)
 (hv:∀(j:Nat) t' v',ts[j]?=some t'→vs[j]?=some v'→Value.okWide P w r base t' v'):∃x:Val (tyL l),AL w arT l x vs∧Rng (tyL l) x:=by
 rcases l with _|⟨τ,l⟩
 ·have:ts=[]:=by cases ts with|nil=>rfl|cons=>simp[CZ] at hs
  subst this
  have hvs:vs=[]:=by cases vs with|nil=>rfl|cons=>cases ds<;>exact h.elim
  exact⟨(show Val .unit from()),hvs,trivial⟩
 ·rcases ts with _|⟨t,ts⟩
  ·simp[CZ] at hs
  ·rcases vs with _|⟨v,vs⟩
   ·cases ds<;>exact h.elim
   ·exact aip l τ t ts v vs ds ps hs h hv
def F3 (hl:laidOutB P=true) {W W':World} (hb:Below W.heap.size W W'):∀{ts:List TypeId} {vs:List Value} {ds:List (DataW H)} {ps:List MemPlace},(ts.all fun t=>P.readableRec t&&decide (t<P.types.size))=true→DataW.TrodAll enc P W 0 (fun _=>true) true ts vs ds ps→(∀x∈ps,x.block<W.heap.size) →
 DataW.TrodAll enc P W' 0 (fun b=>decide (b<W.heap.size)) true ts vs ds ps
 |[],[],[],ps,_,h,_=>h
 |t::ts,v::vs,d::ds,ps,hr,h,hlt=>by
  obtain⟨p,q,h1,h2,rfl⟩:=h;simp only[gc,dh,decide_eq_true_eq] at hr;exact⟨p,q,Below.trod hl hr.1.1 hr.1.2 h1 hb (fun x hx=>hlt x (eM _ hx)),F3 hl hb (by simpa using hr.2) h2 (fun x hx=>hlt x (ee _ hx)),rfl⟩
 |[],[],_::_,_,_,h,_=>h.elim
 |[],_::_,_,_,_,h,_=>by cases ‹List (DataW H)›<;>exact h.elim
 |_::_,[],_,_,_,h,_=>by cases ‹List (DataW H)›<;>exact h.elim
 |_::_,_::_,[],_,_,h,_=>h.elim
def Pb {W:World}:∀{ts:List TypeId} {vs:List Value} {ds:List (DataW H)} {ps:List MemPlace},DataW.TrodAll enc P W 0 sp held ts vs ds ps→ds.length=ts.length
 |[],[],[],_,_=>rfl
 |_::_,_::_,_::_,_,h=>by obtain⟨p,q,_,h2,_⟩:=h; simp[Pb h2]
 |[],[],_::_,_,h=>h.elim
 |[],_::_,ds,_,h=>by cases ds<;>exact h.elim
 |_::_,[],ds,_,h=>by cases ds<;>exact h.elim
 |_::_,_::_,[],_,h=>h.elim
def law_lifted {C:Checked} {os:Os} {f:FuncId} {fn:Func} {s:ChangeSpec} {conds:List PathCond} {p:Ö} {tb:TypeId} (own:ownKnob C.prog.godebug=none) (started:os.Started) (noInit:C.prog.inits.idxOf? f=none) (hfn:C.prog.funcs[f]?=some fn)
 (witness:∃(w:World) (tape:Tape) (i:Input),w.os=os∧(w.forCall tape i).Shaped C.prog∧i.vars=[]∧Input.okWide C.prog (w.forCall tape i) .any w.heap.size f i ∧
  s.pre6 enc C.prog fn conds false (w.forCall tape i).memory i.args∧({}:Assume).holds C.prog (lone (Frame.enter C.prog f i.args .normal) [] (w.forCall tape i)))
 (hp:jt C.prog f p) (hrs:p.rs=[.bool]) (law:∀x:Val (tyL p.ts),Rng (tyL p.ts) x→p.F x=some (hrs▸(show Val (tyL [.bool]) from true))) (htys:CZ C.prog p.ts fn.params.toList=true) (hsv:s.vars=[])
 (hs:∀ds:List (DataW H),ds.length=fn.params.toList.length→s.fn H ds={results:=[.lit (.bool true)],args:=ds}) (hl:laidOutB C.prog=true) (hrd:(fn.params.toList.all fun t=>C.prog.readableRec t&&decide (t<C.prog.types.size))=true)
 (hres:fn.resultTypes=#[tb]) (hbool:C.prog.underlying tb=some .bool) :
 ReturnsInHanded {} C os f .any (s.pre6 enc C.prog fn conds false) (s.post enc C.prog fn false true false false):=by
 refine returnsInHanded_of_change own started noInit hfn witness ?_;intro W base args ds gs before hval hW _ _;have hW':=hW;obtain⟨pa,q,hA,hV,rfl,_,_⟩:=hW
 have hgs:gs=[]∧q=[]:=by
  rw[hsv] at hV
  cases gs with
  |nil=>exact⟨rfl,hV⟩
  |cons=>exact hV.elim
 obtain⟨rfl,rfl⟩:=hgs;obtain⟨x,h1,h2⟩:=aoY htys hA (r:=.any) (base:=base) fun j t v ht hv=>hval j t v (by simpa using ht) (by simpa using hv);simp only[dU] at hW'
 have hlt:∀x∈pa,x.block<W.heap.size:=fun x hx=>by simpa using hW'.lt x hx
 refine(callsIn_wide (n:=0)).1 ((hp arT x _ (law x h2) W args.toList (fun _ h=>h.elim) h1).2.mono fun e W' hw=>?_);obtain⟨u,rfl,k1,k2,k3,k4,k5,k6⟩:=hw
 have hu:u=.bool true:=by
  obtain⟨ts,rs,F⟩:=p;dsimp only at hrs k1;subst hrs;obtain⟨us,c1,rfl⟩:=k1;have:us=[.bool true]:=c1;rw[this]; rfl
 subst hu;have hb:Below W.heap.size W W':=⟨k4,k5,k6,k3,k2⟩
 have hds:s.fn H (ds++[])={results:=[.lit (.bool true)],args:=ds}:=by rw[dU]; exact hs ds (Pb hA)
 refine⟨_,rfl,ds,[],pa,[],pa,[],hW',?_,?_,?_,hb.frame _,fun h=>by cases h⟩
 ·rw[hds,hres];exact trodAll_mk1 (shut_bool hbool _)
 ·rw[hds];exact F3 hl hb hrd hA hlt
 ·rw[hds,hsv]; rfl
end
def joined_of {P:Program} {f:FuncId} {fn:Func} {s:ChangeSpec} {c:OpenClaim} (h1:c.wf (OpenSpec.ofChange s)=true) (h2:laidOutB P=true) (h3:mapsRowed P=true) (h4:fn.params.all (P.readableRec ·)=true) (h5:namedTie P c.named s.vars=true)
 (h6:(c.stops==[])=true) (h7:(P.stops==[])=true) (h8:(c.knobs==[])=true) (h9:(P.stopKnobs==[])=true) (h10:(c.inPlace==P.inPlace f)=true) (h11:(c.unfollowed==P.unfollowed f)=true) (h12:(c.recurses==P.recurses f)=true) (h13:(c.named==P.varsNamed f)=true)
 (h14:(c.maps==(fn.params.toList++s.plain.varTypes P).any (P.mapsRec ·))=true) (h15:(c.ifaces==(fn.params.toList++s.plain.varTypes P).any (P.ifacesRec ·))=true) (h16:(c.mapsOut==P.mapsAmong fn.resultTypes.toList)=true)
 (h17:(c.loops==(fn.params.toList++s.plain.varTypes P).any (P.loopsFrom ·))=true) (h18:(c.wideKeys==(fn.params.toList++s.plain.varTypes P++fn.resultTypes.toList).any (P.wideKeysFrom ·))=true)
 (h19:s.vars.all (P.varReadable ·)=true) (h20:fn.resultTypes.all (fun t=>P.readableRec t&&decide (t<P.types.size))=true) (h21:(c.ifacesOut==fn.resultTypes.toList.any (P.ifacesRec ·))=true) (h22:(c.loopsOut==fn.resultTypes.toList.any (P.loopsFrom ·))=true)
 (h23:(c.plainKeys==P.plainKeys)=true) (h24:c.shortTexts.isNone=true) (h25:P.stopsHeard=true) (h26:P.mayEnter=true) (h27:(c.lifted==P.liftsFinal)=true) (h28:(P.make==some c.make)=true)
 (h29:(c.kinds==(if c.domain.isEmpty then[] else fn.params.toList.map fun t=>match P.underlying t with|some (.int k)=>some k|_=>none))=true) (h30:(c.pinned==c.pinnedBy)=true)
 (h31:(c.veiled==(fn.params.toList++s.plain.varTypes P++fn.resultTypes.toList).any (P.veiledRec ·))=true) (h32:c.veiledFits P fn.params.toList (fn.params.toList++s.plain.varTypes P++fn.resultTypes.toList)=true):joinedFacts P f fn s c=true:=by
 unfold joinedFacts;simp only[h1,h2,h3,h4,h5,h6,h7,h8,h9,h10,h11,h12,h13,h14,h15,h16,h17,h18,h19,h20,h21,h22,h23,h24,h25,h26,h27,h28,h30,h31,h32,Bool.and_true];exact h29
end Go.Am
end
