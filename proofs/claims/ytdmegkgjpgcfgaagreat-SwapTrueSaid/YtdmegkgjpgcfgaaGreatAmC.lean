/- lemmas -/
import Derived.Test.YtdmegkgjpgcfgaaGreatAmB
import Derived.RangeFuncNested
import Derived.Below
import Derived.ProofKit
import Derived.OpenShut
import Derived.WalkKit
import Derived.SizedLaws
import Derived.Carry
set_option linter.all false
set_option linter.unusedSectionVars false
set_option linter.unusedVariables false
set_option linter.unusedSimpArgs false
noncomputable section
namespace Go.Am
variable [Ghost]
section
variable {ρ:Type} {P:Program} {h h2:List Blk} {t t2:List AV}
def Xs {ty:Ty} {a:AV} (hs:oz h h2 a):agu h2 ty a=agu h ty a:=by
 have hsn:aaa h2 a=aaa h a:=J3 hs.one
 cases ty with
 |ptr u =>
  cases a with
  |box id off =>
   cases off with
   |zero =>
    have h1:lkB h2 id=lkB h id:=hs.one id (by simp[refs1,ĭ]);simp only[agu,h1]
    cases hl:lkB h id with
    |cells cs =>
     simp only
     have:cs.map (ÿ h2)=cs.map (ÿ h):=fo fun c hc=>pE fun i hi=>hs i (by
      simp only[refs2,cM,dk]
      exact .inr ⟨id,by simp[refs1,ĭ],by rw[hl]; exact⟨c,hc,hi⟩⟩)
     rw[this]
    |_=>rfl
   |succ n=>rfl
  |eptr t' x off=>cases off<;>rfl
  |_=>rfl
 |_=>cases a with
  |dp id g =>
   have h1:lkB h2 id=lkB h id:=hs.one id (by simp[refs1,ĭ]);simp only[agu,h1]
  |_=>simp only[agu,hsn]
def QJ:∀{l:List Ty} {ty:Ty} {as:List AV},(∀a∈as,oz h h2 a)→TY h2 l ty as=TY h l ty as
 |[],ty,[],_=>rfl
 |[],ty,[a],hs=>by simp only[TY]; exact Xs (hs a (by simp))
 |[],ty,_::_::_,_=>rfl
 |u::l,ty,[],_=>rfl
 |u::l,ty,a::as,hs=>by
  simp only[TY];rw[Xs (hs a (by simp)),QJ fun b hb=>hs b (by simp[hb])]
def QK {l:List Ty} {as:List AV} (hs:∀a∈as,oz h h2 a):CS h2 l as=CS h l as:=by
 cases l with
 |nil=>rfl
 |cons ty l=>exact QJ hs
def Zo {E:Env ρ} {o:Op} (hx:∀x∈o.operands.toList,ev t2 x=ev t x):QA E t2 o=QA E t o:=by
 unfold QA
 split
 ·rename_i s args tys;rw[hx (.tmp s) (by simp[Op.operands,Call.operands])]
 ·rfl
def Nc {E:Env ρ} {o:Op} (hx:∀x∈o.operands.toList,ev t2 x=ev t x) (hs:1≤cls E o→∀x∈o.operands.toList,oz h h2 (ev t x)) :
 mq E {t:=t2,h:=h2} o=mq E {t:=t,h:=h} o:=by
 unfold mq
 split
 ·rename_i hc;have hc1:1≤cls E o:=eZ hc
  have h1:(o.operands.toList.all fun x=>(refs2 h2 (ev t2 x)).all fun id=>!aeM (lkB h2 id))=o.operands.toList.all fun x=>(refs2 h (ev t x)).all fun id=>!aeM (lkB h id):=by
   rw[gI];simp only[di];refine forall_congr' fun x=>forall_congr' fun hm=>?_;rw[hx x hm,(hs hc1 x hm).refs]
   exact forall_congr' fun id=>forall_congr' fun hi=>by rw[hs hc1 x hm id hi]
  exact congr (congrArg and h1) (Zo hx)
 ·rfl
def pn {E:Env ρ} {o:Op} (hc:1≤cls E o) {id:Nat}:id∈AD E {t:=t,h:=h} o↔∃x∈o.operands.toList,id∈refs2 h (ev t x):=by
 unfold AD;have:Nat.ble 1 (cls E o)=true:=Nat.ble_eq_true_of_le hc;simp only[this,List.mem_flatMap]
def E4 {E:Env ρ} {o:Op} (hc:cls E o=0) {S:St}:AD E S o=[]:=by
 unfold AD; rw[hc]
def Loc (E:Env ρ) (o:Op) (nid:Nat) (t:List AV) (h:List Blk) (t2:List AV) (h2:List Blk) (z z2:(AV→St→Option ρ)→Option ρ):Prop :=
 ∃φ:Option (AV×List (Nat×Blk)),(∀r,φ=some r→∀p∈r.2,(p.1=nid∧Ē E.clone o=true)∨(cls E o=2∧p.1∈AD E {t:=t,h:=h} o)) ∧
  (∀K,z K=φ.bind fun r=>K r.1 {t:=t,h:=aps r.2 h})∧∀K,z2 K=φ.bind fun r=>K r.1 {t:=t2,h:=aps r.2 h2}
def Loc.no {E:Env ρ} {o:Op} {nid:Nat} {z z2:(AV→St→Option ρ)→Option ρ} (h1:∀K,z K=none) (h2':∀K,z2 K=none):Loc E o nid t h t2 h2 z z2 :=
 ⟨none,by simp,fun K=>by rw[h1]; rfl,fun K=>by rw[h2']; rfl⟩
def aft {σ σ2:Type} {R:Option σ→Option σ2→Prop} {g nid:Nat} {fz:Bool} {x:AV} {K:AV→St→Option σ} {K2:AV→St→Option σ2} (h0:R none none) (hs:∀id∈refs1 x,lkB h2 id=lkB h id)
 (hK:∀v ef,R (K v {t:=t,h:=ap nid ef h}) (K2 v {t:=t2,h:=ap nid ef h2})):R (zc P g fz {t:=t,h:=h} nid x K) (zc P g fz {t:=t2,h:=h2} nid x K2):=by
 simp only[zc,HJ hs]
 (repeat' split)<;>first|exact h0|exact hK _ none|exact hK _ (some _)
def efU (nid:Nat):Option Blk→List (Nat×Blk)
 |none=>[]
 |some B=>[(nid,B)]
def abt {nid:Nat} {ef:Option Blk}:ap nid ef h=aps (efU nid ef) h:=by cases ef<;>rfl
def aiY {E:Env ρ} {call:List Nat→Bool→Nat→List AV→List Blk→(AV→List Blk→Option ρ)→Option ρ} {fid:Nat} {path:List Nat} {nid:Nat} {o:Oper}
 (hpe:agj E call) (hcl:cls E o.op≤2) (hlen:h2.length=h.length) (hx:∀x∈o.op.operands.toList,ev t2 x=ev t x) (hs:1≤cls E o.op→∀x∈o.op.operands.toList,oz h h2 (ev t x)) :
 Loc E o.op nid t h t2 h2 (χ E call fid path true {t:=t,h:=h} nid o) (χ E call fid path true {t:=t2,h:=h2} nid o):=by
 have hwf:=Nc hx hs
 cases hw:mq E {t:=t,h:=h} o.op with
 |false=>exact .no (fun K=>by simp[χ,hw]) (fun K=>by simp[χ,hwf,hw])
 |true =>
  rw[hw] at hwf
  have plain:(∀f args tys,o.op≠.call ⟨.value f,args,tys⟩)→Loc E o.op nid t h t2 h2 (χ E call fid path true {t:=t,h:=h} nid o) (χ E call fid path true {t:=t2,h:=h2} nid o):=by
   intro hno
   have hr:∀S:St,mq E S o.op=true→∀K,χ E call fid path true S nid o K=opK E.P S nid (Pj E true fid o) o.op K:=fun S hS K=>by
    unfold χ;simp only[hS,Bool.not_true,Bool.and_false,Bool.false_and]
   have hcall:Ql o.op=false:=by
    cases ho:o.op<;>try rfl
    rename_i c;obtain⟨f,args,tys⟩:=c
    cases f<;>first|rfl|exact absurd ho (hno _ _ _)
   have fin:(∃φ:Option (AV×List (Nat×Blk)),(∀r,φ=some r→∀p∈r.2,(p.1=nid∧Ē E.clone o.op=true)∨(cls E o.op=2∧p.1∈AD E {t:=t,h:=h} o.op)) ∧
    opK E.P {t:=t,h:=h} nid (Pj E true fid o) o.op (fun v S=>some (v,S))=φ.map (fun r=>(r.1,({t:=t,h:=aps r.2 h}:St)))∧opK E.P {t:=t2,h:=h2} nid (Pj E true fid o) o.op (fun v S=>some (v,S))=φ.map fun r=>(r.1,({t:=t2,h:=aps r.2 h2}:St))) →
    Loc E o.op nid t h t2 h2 (χ E call fid path true {t:=t,h:=h} nid o) (χ E call fid path true {t:=t2,h:=h2} nid o):=by
    rintro⟨φ,h1,h2',h3⟩;refine⟨φ,h1,fun K=>?_,fun K=>?_⟩
    ·rw[hr _ hw,Rf]; unfold opR; rw[h2']; cases φ<;>rfl
    ·rw[hr _ hwf,Rf]; unfold opR; rw[h3]; cases φ<;>rfl
   apply fin
   by_cases h2c:cls E o.op=2
   ·refine ai8 (P:=E.P) (E:=E) (o:=o.op) (nid:=nid) (σ:=AV×St) (σ2:=AV×St) (K:=fun v S=>some (v,S)) (K2:=fun v S=>some (v,S))
     (R:=fun x y=>∃φ:Option (AV×List (Nat×Blk)),(∀r,φ=some r→∀p∈r.2,(p.1=nid∧Ē E.clone o.op=true)∨(cls E o.op=2∧p.1∈AD E {t:=t,h:=h} o.op))∧x=φ.map (fun r=>(r.1,({t:=t,h:=aps r.2 h}:St)))∧y=φ.map fun r=>(r.1,({t:=t2,h:=aps r.2 h2}:St)))
     ⟨none,by simp,rfl,rfl⟩ h2c hcall hlen (fun ty n ps ho=>by rw[Pj,ho]; rfl) hx (fun x hm=>(hs (by omega) x hm).one) fun v ups hu=>⟨some (v,ups),fun r hr' p hp=>?_,rfl,rfl⟩
    cases hr';rcases hu p hp with hu|⟨x,hm,hi⟩
    ·exact .inl hu
    ·exact .inr ⟨h2c,(pn (by omega)).2 ⟨x,hm,by simp only[refs2,cM]; exact .inl hi⟩⟩
   ·have hea:Pj E true fid o=false:=by
     unfold Pj
     cases ho:o.op<;>first|rfl|(exfalso; apply h2c; rw[ho]; rfl)
    rw[hea]
    refine aib (P:=E.P) (E:=E) (o:=o.op) (nid:=nid) (σ:=AV×St) (σ2:=AV×St) (K:=fun v S=>some (v,S)) (K2:=fun v S=>some (v,S))
     (R:=fun x y=>∃φ:Option (AV×List (Nat×Blk)),(∀r,φ=some r→∀p∈r.2,(p.1=nid∧Ē E.clone o.op=true)∨(cls E o.op=2∧p.1∈AD E {t:=t,h:=h} o.op))∧x=φ.map (fun r=>(r.1,({t:=t,h:=aps r.2 h}:St)))∧y=φ.map fun r=>(r.1,({t:=t2,h:=aps r.2 h2}:St)))
     ⟨none,by simp,rfl,rfl⟩ (by omega) hcall hx (fun h1 x hm=>(hs (by omega) x hm).one) fun v ef hef=>⟨some (v,efU nid ef),fun r hr' p hp=>?_,by rw[abt]; rfl,by rw[abt]; rfl⟩
    cases hr'
    cases ef with
    |none=>cases hp
    |some B =>
     simp only[efU,cP] at hp;subst hp;exact .inl ⟨rfl,hef rfl⟩
  cases ho:o.op with
  |call c =>
   obtain⟨f,args,tys⟩:=c
   cases f with
   |value f =>
    cases f with
    |func g =>
     rw[ho] at hx hs hcl;have hxa:∀x∈args.toList,ev t2 x=ev t x:=fun x hm=>hx x (by simp[Op.operands,Call.operands]; exact .inr (by simpa using hm))
     have hmem:∀x∈args.toList,x∈(Op.call ⟨.value (.func g),args,tys⟩).operands.toList:=fun x hm=>by simp[Op.operands,Call.operands]; exact .inr (by simpa using hm)
     have he:=KC hxa
     cases hc:E.clone g with
     |true =>
      have hcls:cls E (.call ⟨.value (.func g),args,tys⟩)=1:=by simp[cls,hc]
      have hr:∀(S:St),mq E S o.op=true→∀K,χ E call fid path true S nid o K=match args.toList with
       |[x]=>zc E.P g (E.eat fid (o.dst.getD 0)) S nid (ev S.t x) K
       |_=>none:=fun S hS K=>by
       unfold χ;simp only[hS,Bool.not_true,Bool.and_false];rw[ho];simp only[ev,hc,acl,Bool.and_self];rfl
      generalize hl:args.toList=l at hr he hxa hmem;rcases l with _|⟨x,_|⟨y,l⟩⟩
      ·exact .no (fun K=>hr _ hw K) (fun K=>hr _ hwf K)
      ·have hsx:=(hs (by omega) x (hmem x (by simp))).one;have e1:=hxa x (by simp)
       obtain⟨φ,h1,h2',h3⟩:=aft (P:=E.P) (g:=g) (fz:=E.eat fid (o.dst.getD 0)) (nid:=nid) (t:=t) (t2:=t2) (σ:=AV×St) (σ2:=AV×St) (K:=fun v S=>some (v,S)) (K2:=fun v S=>some (v,S))
        (R:=fun x y=>∃φ:Option (AV×List (Nat×Blk)),(∀r,φ=some r→∀p∈r.2,p.1=nid)∧x=φ.map (fun r=>(r.1,({t:=t,h:=aps r.2 h}:St)))∧y=φ.map fun r=>(r.1,{t:=t2,h:=aps r.2 h2}))
        ⟨none,by simp,rfl,rfl⟩ hsx fun v ef=>⟨some (v,efU nid ef),fun r hr' p hp=>by
         cases hr'
         cases ef with
         |none=>cases hp
         |some B=>simp only[efU,cP] at hp; rw[hp],by rw[abt]; rfl,by rw[abt]; rfl⟩
       refine⟨φ,fun r hr' p hp=>.inl ⟨h1 r hr' p hp,by simpa[Ē] using hc⟩,fun K=>?_,fun K=>?_⟩
       ·rw[hr _ hw];simp only;rw[Ht,h2']
        cases φ<;>rfl
       ·rw[hr _ hwf];simp only[e1];rw[Ht,h3]
        cases φ<;>rfl
      ·exact .no (fun K=>hr _ hw K) (fun K=>hr _ hwf K)
     |false =>
      have hr:∀(S:St),mq E S o.op=true→∀K,χ E call fid path true S nid o K=call path true g (args.toList.map (ev S.t)) S.h fun v h=>K v {t:=S.t,h:=h}:=fun S hS K=>by
       unfold χ;simp only[hS,Bool.not_true,Bool.and_false];rw[ho];simp only[ev,hc,acl,Bool.false_and,List.nil_append,List.append_nil]
      rcases hpe with hpe|⟨hpe,hse,hce⟩
      ·exact .no (fun K=>by rw[hr _ hw]; exact hpe _ _ _ _ _ _) (fun K=>by rw[hr _ hwf]; exact hpe _ _ _ _ _ _)
      cases hp:E.pure g with
      |none =>
       have h1c:1≤cls E (.call ⟨.value (.func g),args,tys⟩):=by simp only[cls,hc,hp]; cases E.sort g<;>cases E.compact g<;>simp
       have row:∀(f:List Blk→AV→(AV→List Blk→Option ρ)→Option ρ),(∀S K,mq E S o.op=true→χ E call fid path true S nid o K=match args.toList.map (ev S.t) with|[x]=>f S.h x fun v h=>K v {t:=S.t,h:=h}|_=>none)→cls E (.call ⟨.value (.func g),args,tys⟩)=2 →
        (∀x,(∀id∈refs1 x,lkB h2 id=lkB h id)→∃φ:Option (AV×List (Nat×Blk)),(∀r,φ=some r→∀p∈r.2,p.1∈refs1 x)∧(∀K,f h x K=φ.bind fun r=>K r.1 (aps r.2 h))∧∀K,f h2 x K=φ.bind fun r=>K r.1 (aps r.2 h2)) →
        Loc E (.call ⟨.value (.func g),args,tys⟩) nid t h t2 h2 (χ E call fid path true {t:=t,h:=h} nid o) (χ E call fid path true {t:=t2,h:=h2} nid o):=by
        intro f hf h2c hloc;generalize hl:args.toList=l at hf he hmem;rcases l with _|⟨x,_|⟨y,l⟩⟩
        ·exact .no (fun K=>hf _ K hw) (fun K=>hf _ K hwf)
        ·obtain⟨φ,q1,q2,q3⟩:=hloc (ev t x) (hs h1c x (hmem x (by simp))).one;refine⟨φ,fun r hr' p hp=>.inr ⟨h2c,(pn h1c).2 ⟨x,hmem x (by simp),by simp only[refs2,cM]; exact .inl (q1 r hr' p hp)⟩⟩,fun K=>?_,fun K=>?_⟩
         ·rw[hf _ K hw];exact q2 _
         ·rw[hf _ K hwf];simp only[he];exact q3 _
        ·exact .no (fun K=>hf _ K hw) (fun K=>hf _ K hwf)
       cases hso:E.sort g with
       |true =>
        refine row QP (fun S K hS=>(hr S hS K).trans (hse g hp hso path true _ S.h _)) (by simp[cls,hc,hp,hso]) fun x hx1=>?_;unfold QP
        cases x with
        |own id g =>
         have e3:=hx1 id (by simp[refs1,ĭ]);simp only[e3]
         cases lkB h id with
         |row ty g' fz xs =>
          cases fz<;>simp only
          ·split
           ·split
            ·split
             ·exact⟨some (_,[(id,_)]),by simp[refs1,ĭ],fun K=>rfl,fun K=>rfl⟩
             ·exact⟨none,by simp,fun K=>rfl,fun K=>rfl⟩
            ·exact⟨none,by simp,fun K=>rfl,fun K=>rfl⟩
           ·exact⟨none,by simp,fun K=>rfl,fun K=>rfl⟩
          ·exact⟨none,by simp,fun K=>rfl,fun K=>rfl⟩
         |_=>exact⟨none,by simp,fun K=>rfl,fun K=>rfl⟩
        |nils=>exact⟨some (_,[]),by simp,fun K=>rfl,fun K=>rfl⟩
        |_=>exact⟨none,by simp,fun K=>rfl,fun K=>rfl⟩
       |false =>
        cases hco:E.compact g with
        |true =>
         refine row pw (fun S K hS=>(hr S hS K).trans (hce g hp hso hco path true _ S.h _)) (by simp[cls,hc,hp,hso,hco]) fun x hx1=>?_;unfold pw
         cases x with
         |own id g =>
          have e3:=hx1 id (by simp[refs1,ĭ]);simp only[e3]
          cases lkB h id with
          |row ty g' fz xs =>
           cases fz<;>simp only
           ·split
            ·split
             ·split
              ·exact⟨some (_,[(id,_)]),by simp[refs1,ĭ],fun K=>rfl,fun K=>rfl⟩
              ·exact⟨none,by simp,fun K=>rfl,fun K=>rfl⟩
             ·exact⟨none,by simp,fun K=>rfl,fun K=>rfl⟩
            ·exact⟨none,by simp,fun K=>rfl,fun K=>rfl⟩
           ·exact⟨none,by simp,fun K=>rfl,fun K=>rfl⟩
          |_=>exact⟨none,by simp,fun K=>rfl,fun K=>rfl⟩
         |nils=>exact⟨some (_,[]),by simp,fun K=>rfl,fun K=>rfl⟩
         |_=>exact⟨none,by simp,fun K=>rfl,fun K=>rfl⟩
        |false=>simp[cls,hc,hp,hso,hco] at hcl
      |some p =>
       have h1c:1≤cls E (.call ⟨.value (.func g),args,tys⟩):=by simp only[cls,hc,hp]; cases E.fz g<;>simp
       have hsa:∀a∈args.toList.map (ev t),oz h h2 a:=fun a ha=>by
        obtain⟨x,hm,rfl⟩:=df.1 ha;exact hs h1c x (hmem x hm)
       obtain⟨u,f1,f2,f3⟩:=Tt (cs:=(args.toList.map (ev t)).flatMap lV) hlen fun c hcm id hi=>by
        obtain⟨a,ha,hca⟩:=dk.1 hcm;refine(hsa a ha).one id ?_
        cases a<;>first
         |(simp only[lV,cP] at hca; subst hca; exact hi)
         |(simp only[lV,cP] at hca; subst hca; cases hi; done)
         |exact dk.2 ⟨c,hca,hi⟩
       have f3':∀q∈u,∃x∈args.toList,q.1∈refs2 h (ev t x):=fun q hq=>by
        obtain⟨c,hcm,hi⟩:=f3 q hq;obtain⟨a,ha,hca⟩:=dk.1 hcm;obtain⟨x,hm,rfl⟩:=df.1 ha;refine⟨x,hm,?_⟩;simp only[refs2,cM];left;generalize ev t x=a at hca
        cases a<;>first
         |(simp only[lV,cP] at hca; subst hca; exact hi)
         |(simp only[lV,cP] at hca; subst hca; cases hi; done)
         |exact dk.2 ⟨c,hca,hi⟩
       have hpk:∀(b:Bool) (h':List Blk),CS h' p.ts (args.toList.map (ev t))=CS h p.ts (args.toList.map (ev t))→AC h' ((args.toList.map (ev t)).flatMap lV)=aps u h'→∀(K:AV→List Blk→Option ρ),
        QZ b p h' (args.toList.map (ev t)) K=(match CS h p.ts (args.toList.map (ev t)) with
        |some x=>(p.F x).bind fun y=>match Kh (XI p.rs y) with
         |true=>some (XI p.rs y,[])
         |false=>match (args.toList.map (ev t)).all (fun a=>!NE a) with
          |true=>some (XI p.rs y,[])
          |false=>match b||!(args.toList.map (ev t)).all aeb with
           |true=>none
           |false=>some (XI p.rs y,u)
        |none=>none).bind fun r=>K r.1 (aps r.2 h'):=fun b h' ha hf K=>by
        unfold QZ Ä;rw[ha,hf]
        cases CS h p.ts (args.toList.map (ev t)) with
        |none=>rfl
        |some x =>
         simp only
         cases p.F x with
         |none=>rfl
         |some y =>
          simp only[eO]
          cases Kh (XI p.rs y) with
          |true=>rfl
          |false=>cases(args.toList.map (ev t)).all (fun a=>!NE a) with
           |true=>rfl
           |false=>cases b||!(args.toList.map (ev t)).all aeb<;>rfl
       refine⟨_,?_,fun K=>(hr _ hw K).trans ((hpe g p hp path true _ h _).trans (hpk (true&&!E.fz g) h rfl f1 _)),fun K=>(hr _ hwf K).trans (by simp only[he]; exact(hpe g p hp path true _ h2 _).trans (hpk (true&&!E.fz g) h2 (QK hsa) f2 _))⟩;intro r hr1 q hq
       have hcase:r.2=[]∨(E.fz g=true∧r.2=u):=by
        cases hA:CS h p.ts (args.toList.map (ev t)) with
        |none=>rw[hA] at hr1; cases hr1
        |some x =>
         rw[hA] at hr1;simp only at hr1
         cases hF:p.F x with
         |none=>rw[hF] at hr1; cases hr1
         |some y =>
          rw[hF] at hr1;simp only[eO] at hr1
          split at hr1
          ·cases hr1; exact .inl rfl
          ·split at hr1
           ·cases hr1; exact .inl rfl
           ·split at hr1
            ·cases hr1
            ·rename_i hb;cases hr1;simp only[eF,gB,ff] at hb;exact .inr ⟨hb.1,rfl⟩
       rcases hcase with hz|⟨hfz,hz⟩
       ·rw[hz] at hq; cases hq
       ·rw[hz] at hq;obtain⟨x,hm,hi⟩:=f3' q hq;exact .inr ⟨by simp[cls,hc,hp,hfz],(pn h1c).2 ⟨x,hmem x hm,hi⟩⟩
    |tmp s =>
     rw[ho] at hx hs hcl
     obtain⟨g,hg⟩:∃g,E.hint s=some g:=by
      cases hh:E.hint s with
      |none=>simp[cls,hh] at hcl
      |some g=>exact⟨g,rfl⟩
     have hpf:(E.pure g).isSome=true∧E.fz g=false:=by
      simp only[cls,hg] at hcl
      split at hcl
      ·rename_i hb; simpa using hb
      ·omega
     obtain⟨hpg,hfz⟩:=hpf;obtain⟨p,hp⟩:=gL.1 hpg
     have hcls:cls E (.call ⟨.value (.tmp s),args,tys⟩)=1:=by simp[cls,hg,hp,hfz]
     have hmem:∀x∈args.toList,x∈(Op.call ⟨.value (.tmp s),args,tys⟩).operands.toList:=fun x hm=>by simp[Op.operands,Call.operands]; exact .inr (by simpa using hm)
     have hms:Operand.tmp s∈(Op.call ⟨.value (.tmp s),args,tys⟩).operands.toList:=by simp[Op.operands,Call.operands]
     have he:=KC fun x hm=>hx x (hmem x hm)
     have hnf:QA E t (.call ⟨.value (.tmp s),args,tys⟩)=true:=by
      have h1:=hw;unfold mq at h1;rw[ho] at h1
      have hb1:Nat.ble 1 (cls E (.call ⟨.value (.tmp s),args,tys⟩))=true:=by rw[hcls]; rfl
      simp only[hb1,cH] at h1;exact h1.2
     simp only[QA,hg] at hnf
     split at hnf<;>try (cases hnf; done)
     rename_i g' fa fb hfn;simp only[cH,di] at hnf;obtain⟨hgg,hna,hnb⟩:=hnf;have hgg:g'=g:=cR hgg;subst hgg;have hfn2:=(hx _ hms).trans hfn
     have hr:∀(S:St),mq E S o.op=true→ev S.t (.tmp s)=.fn (.func g') fa fb→∀K,χ E call fid path true S nid o K=call path true g' (fa++(args.toList.map (ev S.t)++fb)) S.h fun v h=>K v {t:=S.t,h:=h}:=fun S hS hSf K=>by
      unfold χ;simp only[hS,Bool.not_true,Bool.and_false];rw[ho];simp only[hSf,acl,Bool.and_false]
     rcases hpe with hpe|⟨hpe,hse,hce⟩
     ·exact .no (fun K=>by rw[hr _ hw hfn]; exact hpe _ _ _ _ _ _) (fun K=>by rw[hr _ hwf hfn2]; exact hpe _ _ _ _ _ _)
     have hcap:∀v,(v∈fa∨v∈fb)→ajb v=true→oz h h2 v:=fun v hv hn id hi=>by
      refine hs (by omega) _ hms id ?_;rw[hfn]
      have e1:Go.Am.refs1 v=adL v:=by cases v<;>first|rfl|cases hn
      simp only[refs2,cM,dk,e1] at hi ⊢
      have hsub:∀i,i∈adL v→i∈Go.Am.refs1 (.fn (.func g') fa fb):=fun i hi=>by
       simp only[Go.Am.refs1,cM,dk];exact hv.imp (fun h=>⟨v,h,hi⟩) fun h=>⟨v,h,hi⟩
      rcases hi with hi|⟨i,hi,q⟩
      ·exact .inl (hsub _ hi)
      ·exact .inr ⟨i,hsub _ hi,q⟩
     have hsa:∀a∈fa++(args.toList.map (ev t)++fb),oz h h2 a:=fun a ha=>by
      rcases cM.1 ha with ha|ha
      ·exact hcap a (.inl ha) (hna a ha)
      ·rcases cM.1 ha with ha|ha
       ·obtain⟨x,hm,rfl⟩:=df.1 ha;exact hs (by omega) x (hmem x hm)
       ·exact hcap a (.inr ha) (hnb a ha)
     have hpk:∀(h':List Blk),CS h' p.ts (fa++(args.toList.map (ev t)++fb))=CS h p.ts (fa++(args.toList.map (ev t)++fb))→∀(K:AV→List Blk→Option ρ),
      QZ (true&&!E.fz g') p h' (fa++(args.toList.map (ev t)++fb)) K=(match CS h p.ts (fa++(args.toList.map (ev t)++fb)) with
      |some x=>(p.F x).bind fun y=>match Kh (XI p.rs y) with
       |true=>some (XI p.rs y,([]:List (Nat×Blk)))
       |false=>match (fa++(args.toList.map (ev t)++fb)).all (fun a=>!NE a) with
        |true=>some (XI p.rs y,[])
        |false=>none
      |none=>none).bind fun r=>K r.1 (aps r.2 h'):=fun h' ha K=>by
      unfold QZ Ä;rw[ha,hfz]
      cases CS h p.ts (fa++(args.toList.map (ev t)++fb)) with
      |none=>rfl
      |some x =>
       simp only
       cases p.F x with
       |none=>rfl
       |some y =>
        simp only[eO]
        cases Kh (XI p.rs y) with
        |true=>rfl
        |false=>cases(fa++(args.toList.map (ev t)++fb)).all (fun a=>!NE a)<;>rfl
     refine⟨_,?_,fun K=>(hr _ hw hfn K).trans ((hpe g' p hp path true _ h _).trans (hpk h rfl _)),fun K=>(hr _ hwf hfn2 K).trans (by simp only[he]; exact(hpe g' p hp path true _ h2 _).trans (hpk h2 (QK hsa) _))⟩;intro r hr1 q hq;exfalso
     cases hA:CS h p.ts (fa++(args.toList.map (ev t)++fb)) with
     |none=>rw[hA] at hr1; cases hr1
     |some x =>
      rw[hA] at hr1;simp only at hr1
      cases hF:p.F x with
      |none=>rw[hF] at hr1; cases hr1
      |some y =>
       rw[hF] at hr1;simp only[eO] at hr1
       split at hr1
       ·cases hr1; cases hq
       ·split at hr1<;>cases hr1
        cases hq
    |_=>rw[ho] at hcl; simp[cls] at hcl
   |_=>exact ho▸plain fun _ _ _ hf=>by rw[ho] at hf; cases hf
  |_=>exact ho▸plain fun _ _ _ hf=>by rw[ho] at hf; cases hf
def aiM {l:List Operand} (ht:∀s∈Pv l,lk t2 s=lk t s):∀x∈l,ev t2 x=ev t x:=by
 induction l with
 |nil=>intro x hm; cases hm
 |cons y l ih =>
  intro x hm;rcases cN.1 hm with rfl|hm
  ·cases x with
   |tmp i=>exact ht i (by simp[Pv])
   |_=>rfl
  ·refine ih (fun s hs=>ht s ?_) x hm
   cases y<;>simp[Pv,hs]
def Z1:∀(t:List AV) {d d':Nat} (v v':AV),d≠d'→upd (upd t d v) d' v'=upd (upd t d' v') d v
 |[],_,_,_,_,_=>rfl
 |_::_,0,0,_,_,h=>absurd rfl h
 |_::_,0,_+1,_,_,_=>rfl
 |_::_,_+1,0,_,_,_=>rfl
 |x::t,d+1,d'+1,v,v',h=>by simp only[upd]; rw[Z1 t v v' (by omega)]
def Uh:∀(t:List Blk) {d d':Nat} (v v':Blk),d≠d'→ð (ð t d v) d' v'=ð (ð t d' v') d v
 |[],_,_,_,_,_=>rfl
 |_::_,0,0,_,_,h=>absurd rfl h
 |_::_,0,_+1,_,_,_=>rfl
 |_::_,_+1,0,_,_,_=>rfl
 |x::t,d+1,d'+1,v,v',h=>by simp only[ð]; rw[Uh t v v' (by omega)]
def J6 {da db:Option Nat} (hd:∀x,da=some x→db≠some x) (va vb:AV):þ (þ t da va) db vb=þ (þ t db vb) da va:=by
 cases da with
 |none=>rfl
 |some x=>cases db with
  |none=>rfl
  |some y=>exact Z1 t va vb fun h=>hd x rfl (by rw[h])
def xz {d:Option Nat} {s:Nat} (hd:d≠some s) (v:AV):lk (þ t d v) s=lk t s:=by
 cases d with
 |none=>rfl
 |some x =>
  simp only[þ,aez];rw[if_neg];rintro⟨rfl,_⟩;exact hd rfl
def abr:∀{u v:List (Nat×Blk)} {h:List Blk},(∀p∈u,∀q∈v,p.1≠q.1)→aps v (aps u h)=aps u (aps v h)
 |[],_,_,_=>rfl
 |p::u,v,h,hn=>by
  show aps v (aps u (ð h p.1 p.2))=aps u (ð (aps v h) p.1 p.2);rw[abr fun q hq=>hn q (by simp[hq])];congr 1
  have:∀(v:List (Nat×Blk)) (h:List Blk),(∀q∈v,p.1≠q.1)→aps v (ð h p.1 p.2)=ð (aps v h) p.1 p.2:=by
   intro v
   induction v with
   |nil=>intro h _; rfl
   |cons q v ih =>
    intro h hq;show aps v (ð (ð h p.1 p.2) q.1 q.2)=ð (aps v (ð h q.1 q.2)) p.1 p.2;rw[Uh _ _ _ (hq q (by simp)),ih _ fun r hr=>hq r (by simp[hr])]
  exact this v h (hn p (by simp))
def Δ (all:List Oper) (o:Oper) (t:List AV):Option Bool :=
 match o.guard with
 |none=>some true
 |some (j,want)=>match lk t (pm all j) with
  |.bool b=>some (b==want)
  |.und=>some false
  |_=>none
def xq (E:Env ρ) (all:List Oper) (o:Oper) (S:St):List Nat :=
 match Δ all o S.t with
 |some true=>AD E S o.op
 |_=>[]
def xe (E:Env ρ) (call:List Nat→Bool→Nat→List AV→List Blk→(AV→List Blk→Option ρ)→Option ρ) (fid:Nat) (path:List Nat) (all:List Oper) (bef:List Nat) (acc:List (Nat×List Nat)) (i nid:Nat) (o:Oper) (S:St) (K:List Nat→St→Option ρ):Option ρ :=
 match Δ all o S.t==some true&&!chk E all bef acc i (AD E S o.op) with
 |true=>none
 |false=>pQ E call fid path true all i nid o S (K (xq E all o S))
def ad4 {E:Env ρ} {call:List Nat→Bool→Nat→List AV→List Blk→(AV→List Blk→Option ρ)→Option ρ} {fid:Nat} {path:List Nat} {all:List Oper} {bef:List Nat} {o:Oper} {os:List Oper} {i nid:Nat} {acc:List (Nat×List Nat)} {S:St} {K:St→Option ρ} :
 ad5 E call fid path all bef (o::os) i nid acc S K=xe E call fid path all bef acc i nid o S fun F S'=>ad5 E call fid path all bef os (i+1) (bif Ē E.clone o.op then nid+1 else nid) ((i,F)::acc) S' K:=by
 have hself:∀d b,lk S.t d=.bool b→({t:=upd S.t d (.bool b),h:=S.h}:St)=S:=fun d b hb=>by rw[←hb,C0]
 have htself:∀d b,lk S.t d=.bool b→upd S.t d (.bool b)=S.t:=fun d b hb=>by rw[←hb,C0]
 simp only[ad5,xe,pQ,xq,Δ]
 cases o.guard with
 |none=>cases chk E all bef acc i (AD E S o.op)<;>rfl
 |some g =>
  obtain⟨j,want⟩:=g;simp only
  cases hb:lk S.t (pm all j)<;>try rfl
  rename_i b;have h1:=hself _ b hb;have h2:=htself _ b hb
  cases b<;>cases want<;>simp only[h1,h2]<;>first
   |rfl
   |(cases chk E all bef acc i (AD E S o.op)<;>rfl)
def E5 {E:Env ρ} {o:Op} (hx:∀x∈o.operands.toList,ev t2 x=ev t x) (hs:1≤cls E o→∀x∈o.operands.toList,oz h h2 (ev t x)):AD E {t:=t2,h:=h2} o=AD E {t:=t,h:=h} o:=by
 unfold AD
 split
 ·rename_i hc;have hc1:1≤cls E o:=eZ hc
  have:∀l:List Operand,(∀x∈l,x∈o.operands.toList)→(l.flatMap fun x=>refs2 h2 (ev t2 x))=l.flatMap fun x=>refs2 h (ev t x):=by
   intro l
   induction l with
   |nil=>intro _; rfl
   |cons x l ih =>
    intro hl;simp only[dz];rw[hx x (hl x (by simp)),(hs hc1 x (hl x (by simp))).refs,ih fun y hy=>hl y (by simp[hy])]
  exact this _ fun _ h=>h
 ·rfl
def HT {all:List Oper} {o:Oper} (ht:∀s∈iD all o,lk t2 s=lk t s):∀x∈o.op.operands.toList,ev t2 x=ev t x:=aiM fun s hm=>ht s (by simp only[iD,cM]; exact .inr hm)
def iS {all:List Oper} {o:Oper} (ht:∀s∈iD all o,lk t2 s=lk t s):Δ all o t2=Δ all o t:=by
 unfold Δ
 cases hg:o.guard with
 |none=>rfl
 |some g =>
  obtain⟨j,want⟩:=g;simp only;rw[ht _ (by simp[iD,hg])]
def agy {E:Env ρ} {o:Op} (hc:1≤cls E o) (hw:mq E {t:=t,h:=h} o=true):∀id∈AD E {t:=t,h:=h} o,lkB h id≠.dead:=fun id hi hd=>by
 obtain⟨x,hm,hi⟩:=(pn hc).1 hi;unfold mq at hw;have hb1:Nat.ble 1 (cls E o)=true:=Nat.ble_eq_true_of_le hc;simp only[hb1,Bool.and_eq_true,List.all_eq_true] at hw;have:=hw.1 x hm id hi;rw[hd] at this;cases this
def Jv {E:Env ρ} {call:List Nat→Bool→Nat→List AV→List Blk→(AV→List Blk→Option ρ)→Option ρ} {fid:Nat} {path:List Nat} {all:List Oper} {i nid:Nat} {o:Oper} (r0:ρ)
 (hpe:agj E call) (hcl:cls E o.op≤2) (hlen:h2.length=h.length) (ht:∀s∈iD all o,lk t2 s=lk t s)
 (hs:Δ all o t=some true→1≤cls E o.op→∀x∈o.op.operands.toList,oz h h2 (ev t x)) :
 ∃φ:Option (AV×List (Nat×Blk)),(∀r,φ=some r→∀p∈r.2,(p.1=nid∧Ē E.clone o.op=true)∨(cls E o.op=2∧p.1∈xq E all o {t:=t,h:=h})) ∧
  (∀r,φ=some r→∀id∈xq E all o {t:=t,h:=h},lkB h id≠.dead) ∧
  (∀K,pQ E call fid path true all i nid o {t:=t,h:=h} K=φ.bind fun r=>K {t:=þ t o.dst r.1,h:=aps r.2 h}) ∧
  ∀K,pQ E call fid path true all i nid o {t:=t2,h:=h2} K=φ.bind fun r=>K {t:=þ t2 o.dst r.1,h:=aps r.2 h2}:=by
 have hx:=HT (t:=t) (t2:=t2) (o:=o) ht;have hwt:=iS (t:=t) (t2:=t2) (o:=o) ht
 cases hw:Δ all o t with
 |none =>
  rw[hw] at hwt
  have:∀(S:St),Δ all o S.t=none→∀K,pQ E call fid path true all i nid o S K=none:=fun S hS K=>by
   unfold Δ at hS;unfold pQ
   cases hg:o.guard with
   |none=>rw[hg] at hS; cases hS
   |some g =>
    obtain⟨j,want⟩:=g;rw[hg] at hS;simp only at hS ⊢
    cases hb:lk S.t (pm all j)<;>rw[hb] at hS<;>first|rfl|cases hS
  exact⟨none,by simp,by simp,fun K=>this _ hw K,fun K=>this _ hwt K⟩
 |some b =>
  cases b with
  |false =>
   rw[hw] at hwt
   have:∀(S:St),Δ all o S.t=some false→∀K,pQ E call fid path true all i nid o S K=K {t:=þ S.t o.dst .und,h:=S.h}:=fun S hS K=>by
    unfold Δ at hS;unfold pQ
    cases hg:o.guard with
    |none=>rw[hg] at hS; cases hS
    |some g =>
     obtain⟨j,want⟩:=g;rw[hg] at hS;simp only at hS ⊢
     cases hb:lk S.t (pm all j)<;>rw[hb] at hS<;>first|rfl|(cases hS; done)|skip
     simp only[Option.some.injEq] at hS ⊢;rw[hS]
   refine⟨some (.und,[]),?_,?_,fun K=>this _ hw K,fun K=>this _ hwt K⟩
   ·intro r hr p hp;cases hr;cases hp
   ·intro r hr id hi;simp only[xq,hw] at hi;cases hi
  |true =>
   rw[hw] at hwt
   have hst:∀(S:St),Δ all o S.t=some true→∀K,pQ E call fid path true all i nid o S K=χ E call fid (path++[i]) true S nid o fun v S=>K {t:=þ S.t o.dst v,h:=S.h}:=fun S hS K=>by
    unfold Δ at hS;unfold pQ
    cases hg:o.guard with
    |none=>rfl
    |some g =>
     obtain⟨j,want⟩:=g;rw[hg] at hS;simp only at hS ⊢
     cases hb:lk S.t (pm all j)<;>rw[hb] at hS<;>first|(cases hS; done)|skip
     simp only[Option.some.injEq] at hS ⊢;rw[hS]
   obtain⟨φ,h1,h2',h3⟩:=aiY (fid:=fid) (path:=path++[i]) (nid:=nid) hpe hcl hlen hx (hs hw)
   have hfp:xq E all o {t:=t,h:=h}=AD E {t:=t,h:=h} o.op:=by simp only[xq,hw]
   refine⟨φ,fun r hr p hp=>?_,fun r hr id hi=>?_,fun K=>by rw[hst _ hw,h2'],fun K=>by rw[hst _ hwt,h3]⟩
   ·rw[hfp]; exact h1 r hr p hp
   ·rw[hfp] at hi
    by_cases hc:1≤cls E o.op
    ·refine agy hc ?_ id hi
     cases hwf:mq E {t:=t,h:=h} o.op with
     |true=>rfl
     |false =>
      exfalso;have hk:=h2' fun v S=>some r0;rw[hr] at hk;simp[χ,hwf] at hk
    ·rw[E4 (by omega)] at hi;cases hi
def za:∀{l m:List Nat},disj l m=true↔∀x∈l,x∉m
 |[],m=>by simp[disj]
 |x::l,m=>by
  simp only[disj,cH,ee,dM,cN,forall_eq_or_imp,za (l:=l)];refine and_congr_left fun _=>⟨fun h hm=>h x hm (Nat.beq_refl x),fun h y hy he=>?_⟩;have:=cR he;subst this;exact h hy
structure ah6 (E:Env ρ) (all:List Oper) (bef:List Nat) (ia ib:Nat) (a b:Oper):Prop where
 ha:all[ia]?=some a
 hb:all[ib]?=some b
 a3:cls E a.op≤2
 b3:cls E b.op≤2∨cls E a.op=0
 rb:∀s∈iD all b,a.dst≠some s
 ra:∀s∈iD all a,b.dst≠some s
 dd:∀x,a.dst=some x→b.dst≠some x
 bab:(bef.getD ib 0).testBit ia=false
 bba:(bef.getD ia 0).testBit ib=false
def afr (E:Env ρ) (o:Op):cls E o≤3:=by
 cases o with
 |call c =>
  obtain⟨f,args,tys⟩:=c
  cases f with
  |value f=>cases f<;>simp only[cls]<;>(repeat' split)<;>omega
  |builtin b=>cases b<;>simp[cls]
  |_=>simp[cls]
 |_=>simp[cls]
def Zx {E:Env ρ} {all:List Oper} {bef:List Nat} {ia ib:Nat} {a b:Oper} (hc:ahE E all a b=false) (ha:all[ia]?=some a) (hb:all[ib]?=some b) (h1:(bef.getD ib 0).testBit ia=false) (h2:(bef.getD ia 0).testBit ib=false):ah6 E all bef ia ib a b:=by
 unfold ahE at hc;simp only[Bool.or_eq_false_iff,beq_eq_false_iff_ne] at hc;obtain⟨⟨⟨⟨_,h3,h4⟩,h5⟩,h6⟩,h7⟩:=hc;have qa:=afr E a.op;have qb:=afr E b.op
 have h4':cls E b.op≤2∨cls E a.op=0:=by
  by_cases h8:cls E b.op=3
  ·rw[h8] at h4;right
   by_cases h9:1≤cls E a.op
   ·rw[Nat.ble_eq_true_of_le h9] at h4; cases h4
   ·omega
  ·left; omega
 refine⟨ha,hb,by omega,h4',fun s hs hd=>?_,fun s hs hd=>?_,fun x hx hy=>?_,h1,h2⟩
 ·rw[hd] at h5;simp[ag4,hs] at h5
 ·rw[hd] at h6;simp[ag4,hs] at h6
 ·rw[hx,hy] at h7;simp at h7
def Db {E:Env ρ} {all:List Oper} {bef:List Nat} {j i:Nat} {a b:Oper} {Fj Fi:List Nat} (hp:Dc E all bef j i Fj Fi=true) (ha:all[j]?=some a) (hb:all[i]?=some b) (h1:(bef.getD j 0).testBit i=false) (h2:(bef.getD i 0).testBit j=false)
 (hc:BB E a.op b.op=true):∀x∈Fj,x∉Fi:=by
 unfold Dc at hp;simp only[ha,hb,hc,h1,h2,Bool.not_true,Bool.false_or] at hp;exact za.1 hp
def Zy {E:Env ρ} {a b:Op}:BB E a b=BB E b a:=by
 unfold BB; cases cls E a==2<;>cases cls E b==2<;>cases Nat.ble 1 (cls E a)<;>cases Nat.ble 1 (cls E b)<;>rfl
def X6 {E:Env ρ} {all:List Oper} {bef:List Nat} {j i:Nat} {Fj Fi:List Nat} (hp:Dc E all bef j i Fj Fi=true):Dc E all bef i j Fi Fj=true:=by
 unfold Dc at hp ⊢
 cases ha:all[j]? with
 |none=>rw[ha] at hp; cases hp
 |some a=>cases hb:all[i]? with
  |none=>rw[ha,hb] at hp; cases hp
  |some b =>
   rw[ha,hb] at hp;simp only[Bool.or_eq_true,ee] at hp ⊢;rw[Zy];rcases hp with hp|hp|hp|hp
   ·exact .inl hp
   ·exact .inr (.inr (.inl hp))
   ·exact .inr (.inl hp)
   ·exact .inr (.inr (.inr (za.2 fun x hx hy=>za.1 hp x hy hx)))
def pN {E:Env ρ} {a b:Op}:BB E a b=true↔(cls E a=2∧1≤cls E b)∨(1≤cls E a∧cls E b=2):=by
 unfold BB;simp only[Bool.or_eq_true,Bool.and_eq_true,beq_iff_eq,Nat.ble_eq]
def pz {E:Env ρ} {all:List Oper} {bef:List Nat} {acc:List (Nat×List Nat)} {p:Nat×List Nat} {i:Nat} {F:List Nat}:chk E all bef (p::acc) i F=(Dc E all bef p.1 i p.2 F&&chk E all bef acc i F):=by
 simp[chk]
def F3 {E:Env ρ} {all:List Oper} {bef:List Nat} {j i:Nat} {a b:Oper} {Fj:List Nat} (ha:all[j]?=some a) (hb:all[i]?=some b):Dc E all bef j i Fj []=true:=by
 unfold Dc;simp only[ha,hb,Bool.or_eq_true];exact .inr (.inr (.inr (za.2 fun x _=>by simp)))
def MT {E:Env ρ} {all:List Oper} {o:Oper} (ht:∀s∈iD all o,lk t2 s=lk t s) (hs:Δ all o t=some true→1≤cls E o.op→∀x∈o.op.operands.toList,oz h h2 (ev t x)):xq E all o {t:=t2,h:=h2}=xq E all o {t:=t,h:=h}:=by
 unfold xq;simp only[iS (t:=t) (t2:=t2) ht]
 cases hw:Δ all o t with
 |none=>rfl
 |some b=>cases b with
  |false=>rfl
  |true=>exact E5 (HT ht) (hs hw)
def acE {E:Env ρ} {o:Op} (h:cls E o=0):Ē E.clone o=false:=by
 cases o with
 |call c =>
  obtain⟨f,args,tys⟩:=c
  cases f with
  |value f=>cases f<;>simp only[cls] at h<;>(repeat' split at h)<;>first|omega|rfl|(cases h; done)
  |builtin b=>cases b<;>simp[cls] at h
  |_=>simp[cls] at h
 |_=>first|rfl|(simp[cls] at h; done)
def afs {E:Env ρ} {o:Op} (h:cls E o=0):Ql o=false:=by
 cases o with
 |call c =>
  obtain⟨f,args,tys⟩:=c
  cases f with
  |value f=>cases f<;>simp only[cls] at h<;>(repeat' split at h)<;>first|omega|(cases h; done)
  |_=>rfl
 |_=>rfl
def agR {E:Env ρ} {call:List Nat→Bool→Nat→List AV→List Blk→(AV→List Blk→Option ρ)→Option ρ} {fid:Nat} {path:List Nat} {nid:Nat} {o:Oper} (hcl:cls E o.op=0) :
 ∃φ:Option AV,∀(t2:List AV) (h2:List Blk),(∀x∈o.op.operands.toList,ev t2 x=ev t x)→∀K,χ E call fid path true {t:=t2,h:=h2} nid o K=φ.bind fun v=>K v {t:=t2,h:=h2}:=by
 have hcall:=afs hcl;have hal:=acE hcl
 have hr:∀S:St,∀K,χ E call fid path true S nid o K=opK E.P S nid false o.op K:=fun S K=>by
  have hw:mq E S o.op=true:=by
   unfold mq
   have:Nat.ble 1 (cls E o.op)=false:=by rw[hcl]; rfl
   rw[this]
  have hea:Pj E true fid o=false:=by
   unfold Pj
   cases ho:o.op<;>first|rfl|(rw[ho] at hcl; simp[cls] at hcl; done)
  unfold χ;simp only[hw,hea,Bool.not_true,Bool.and_false]
  cases hop:o.op with
  |call c =>
   obtain⟨f,args,tys⟩:=c;rw[hop] at hcall
   cases f with
   |value f=>cases hcall
   |_=>rfl
  |_=>rfl
 refine⟨opK E.P {t:=t,h:=[]} nid false o.op fun v _=>some v,fun t2 h2 hx K=>?_⟩;rw[hr,Rf]
 have:=aib (P:=E.P) (E:=E) (o:=o.op) (nid:=nid) (σ:=AV) (σ2:=AV×St) (t:=t) (t2:=t2) (h:=[]) (h2:=h2) (K:=fun v _=>some v) (K2:=fun v S=>some (v,S)) (R:=fun x y=>y=x.map fun v=>(v,({t:=t2,h:=h2}:St)))
  rfl (by omega) hcall hx (fun h1=>by omega) fun v ef hef=>by
   cases ef with
   |none=>rfl
   |some B=>rw[hal] at hef; exact absurd (hef rfl) (by simp)
 unfold opR;rw[this]
 cases opK E.P {t:=t,h:=[]} nid false o.op (fun v _=>some v)<;>rfl
def adt {E:Env ρ} {call:List Nat→Bool→Nat→List AV→List Blk→(AV→List Blk→Option ρ)→Option ρ} {fid:Nat} {path:List Nat} {all:List Oper} {i nid:Nat} {o:Oper} (hcl:cls E o.op=0) (t:List AV) :
 ∃φ:Option AV,∀(t2:List AV) (h2:List Blk),(∀s∈iD all o,lk t2 s=lk t s)→∀K,pQ E call fid path true all i nid o {t:=t2,h:=h2} K=φ.bind fun v=>K {t:=þ t2 o.dst v,h:=h2}:=by
 obtain⟨φ,hφ⟩:=agR (call:=call) (fid:=fid) (path:=path++[i]) (nid:=nid) (t:=t) hcl
 cases hw:Δ all o t with
 |none =>
  refine⟨none,fun t2 h2 ht K=>?_⟩;have hw2:=(iS (t:=t) (t2:=t2) ht).trans hw;unfold Δ at hw2;unfold pQ
  cases hg:o.guard with
  |none=>rw[hg] at hw2; cases hw2
  |some g =>
   obtain⟨j,want⟩:=g;rw[hg] at hw2;simp only at hw2 ⊢
   cases hb:lk t2 (pm all j)<;>rw[hb] at hw2<;>first|rfl|cases hw2
 |some b =>
  cases b with
  |false =>
   refine⟨some .und,fun t2 h2 ht K=>?_⟩;have hw2:=(iS (t:=t) (t2:=t2) ht).trans hw;unfold Δ at hw2;unfold pQ
   cases hg:o.guard with
   |none=>rw[hg] at hw2; cases hw2
   |some g =>
    obtain⟨j,want⟩:=g;rw[hg] at hw2;simp only at hw2 ⊢
    cases hb:lk t2 (pm all j)<;>rw[hb] at hw2<;>first|rfl|(cases hw2; done)|skip
    simp only[Option.some.injEq] at hw2 ⊢;rw[hw2];rfl
  |true =>
   refine⟨φ,fun t2 h2 ht K=>?_⟩;have hw2:=(iS (t:=t) (t2:=t2) ht).trans hw;have h3:=hφ t2 h2 (HT ht);unfold Δ at hw2;unfold pQ
   cases hg:o.guard with
   |none=>exact h3 _
   |some g =>
    obtain⟨j,want⟩:=g;rw[hg] at hw2;simp only at hw2 ⊢
    cases hb:lk t2 (pm all j)<;>rw[hb] at hw2<;>first|(cases hw2; done)|skip
    simp only[Option.some.injEq] at hw2 ⊢;rw[hw2];exact h3 _
def adG {E:Env ρ} {call:List Nat→Bool→Nat→List AV→List Blk→(AV→List Blk→Option ρ)→Option ρ} {fid:Nat} {path:List Nat} {nid:Nat} {o:Oper} (hcl:cls E o.op=3) (hx:∀x∈o.op.operands.toList,ev t2 x=ev t x) (K:AV→St→Option ρ) :
 χ E call fid path true {t:=t2,h:=h} nid o K=χ E call fid path true {t:=t,h:=h} nid o fun v S=>K v {t:=t2,h:=S.h}:=by
 have hwf:mq E {t:=t2,h:=h} o.op=mq E {t:=t,h:=h} o.op:=Nc hx fun _ _ _ _ _=>rfl;unfold χ;rw[hwf]
 cases ho:o.op with
 |call c =>
  obtain⟨f,args,tys⟩:=c;rw[ho] at hx hcl
  cases f with
  |value f =>
   have hf:ev t2 f=ev t f:=hx f (by simp[Op.operands,Call.operands]);have hxa:∀x∈args.toList,ev t2 x=ev t x:=fun x hm=>hx x (by simp[Op.operands,Call.operands]; exact .inr (by simpa using hm));have he:=KC hxa;simp only[hf,he]
   cases hev:ev t f with
   |fn g fa fb =>
    cases g with
    |func g =>
     simp only
     cases hc:E.clone g&&acl f with
     |false=>rfl
     |true =>
      exfalso;rw[cH] at hc
      cases f with
      |func g' =>
       have:g'=g:=by simp only[ev] at hev; cases hev; rfl
       subst this;simp[cls,hc.1] at hcl
      |_=>simp[acl] at hc
    |_=>rfl
   |yld =>
    simp only;rcases hal:args.toList with _|⟨x,_|⟨y,l⟩⟩
    ·rfl
    ·simp only; rw[hxa x (by rw[hal]; simp)]
    ·rfl
   |_=>rfl
  |builtin b=>cases b<;>simp[cls] at hcl
  |_=>rfl
 |_=>rw[ho] at hcl; simp[cls] at hcl
def abM {E:Env ρ} {call:List Nat→Bool→Nat→List AV→List Blk→(AV→List Blk→Option ρ)→Option ρ} {fid:Nat} {path:List Nat} {all:List Oper} {i nid:Nat} {o:Oper} (hcl:cls E o.op=3) (ht:∀s∈iD all o,lk t2 s=lk t s) :
 ∃Ψ:(AV→List Blk→Option ρ)→Option ρ,(∀K,pQ E call fid path true all i nid o {t:=t,h:=h} K=Ψ fun v h'=>K {t:=þ t o.dst v,h:=h'})∧∀K,pQ E call fid path true all i nid o {t:=t2,h:=h} K=Ψ fun v h'=>K {t:=þ t2 o.dst v,h:=h'}:=by
 have key:∀t':List AV,(∀s∈iD all o,lk t' s=lk t s)→∀K,pQ E call fid path true all i nid o {t:=t',h:=h} K=(fun k:AV→List Blk→Option ρ=>match Δ all o t with
  |none=>none
  |some false=>k .und h
  |some true=>χ E call fid (path++[i]) true {t:=t,h:=h} nid o fun v S=>k v S.h) fun v h'=>K {t:=þ t' o.dst v,h:=h'}:=fun t' ht K=>by
  have hwt:=iS (t:=t) (t2:=t') (o:=o) ht;have h3:=adG (call:=call) (fid:=fid) (path:=path++[i]) (nid:=nid) (h:=h) hcl (HT ht);rw[←hwt];unfold Δ pQ
  cases hg:o.guard with
  |none=>exact h3 _
  |some g =>
   obtain⟨j,want⟩:=g;simp only
   cases hb:lk t' (pm all j) with
   |bool b =>
    simp only
    cases hbw:b==want with
    |true=>exact h3 _
    |false=>rfl
   |_=>rfl
 exact⟨fun k:AV→List Blk→Option ρ=>match Δ all o t with
  |none=>none
  |some false=>k .und h
  |some true=>χ E call fid (path++[i]) true {t:=t,h:=h} nid o fun v S=>k v S.h,key t fun _ _=>rfl,key t2 ht⟩
def WV {E:Env ρ} {all:List Oper} {o:Oper} (hcl:cls E o.op=0) (S:St):xq E all o S=[]:=by
 unfold xq
 split
 ·exact E4 hcl
 ·rfl
def swap0 {E:Env ρ} {call:List Nat→Bool→Nat→List AV→List Blk→(AV→List Blk→Option ρ)→Option ρ} {fid:Nat} {path:List Nat} {all:List Oper} {bef:List Nat} {acc:List (Nat×List Nat)} {ia na ib nb:Nat} {a b:Oper} {K:List Nat→List Nat→St→Option ρ} {r:ρ}
 (hc:ah6 E all bef ia ib a b) (ha:cls E a.op=0) (hb:cls E b.op=3)
 (e:xe E call fid path all bef acc ia na a {t:=t,h:=h} (fun Fa S=>xe E call fid path all bef ((ia,Fa)::acc) ib nb b S (K Fa))=some r) :
 xe E call fid path all bef acc ib nb b {t:=t,h:=h} (fun Fb S=>xe E call fid path all bef ((ib,Fb)::acc) ia na a S fun Fa=>K Fa Fb)=some r:=by
 obtain⟨φ,hφ⟩:=adt (call:=call) (fid:=fid) (path:=path) (all:=all) (i:=ia) (nid:=na) ha t;unfold xe at e
 split at e<;>try (cases e; done)
 rename_i hcha;rw[hφ t h fun _ _=>rfl] at e;obtain⟨va,q1,q2⟩:=Η e;simp only at q2
 split at q2<;>try (cases q2; done)
 rename_i hchb;have htb:∀s∈iD all b,lk (þ t a.dst va) s=lk t s:=fun s hs=>xz (hc.rb s hs) _;obtain⟨Ψ,p1,p2⟩:=abM (call:=call) (fid:=fid) (path:=path) (all:=all) (i:=ib) (nid:=nb) (h:=h) hb htb;rw[p2] at q2;have hwb:Δ all b (þ t a.dst va)=Δ all b t:=iS htb;have hfo:AD E {t:=þ t a.dst va,h:=h} b.op=AD E {t:=t,h:=h} b.op:=E5 (HT htb) fun _ _ _ _ _=>rfl;have hfb:xq E all b {t:=þ t a.dst va,h:=h}=xq E all b {t:=t,h:=h}:=MT htb fun _ _ _ _ _ _=>rfl;unfold xe
 split
 ·rename_i hx;exfalso;rw[hfo,hwb,pz] at hchb
  cases hw:Δ all b t==some true<;>rw[hw] at hx hchb<;>simp only[Bool.false_and,eF,ee,ff,cV] at hx hchb
  rw[hx,Bool.and_false] at hchb;cases hchb
 ·rw[p1];rw[←q2];congr 1;funext v h';have hta:∀s∈iD all a,lk (þ t b.dst v) s=lk t s:=fun s hs=>xz (hc.ra s hs) _;have hwa:Δ all a (þ t b.dst v)=Δ all a t:=iS hta
  have hcond:¬((Δ all a (þ t b.dst v)==some true&&!chk E all bef ((ib,xq E all b {t:=t,h:=h})::acc) ia (AD E {t:=þ t b.dst v,h:=h'} a.op))=true):=by
   rw[hwa,E4 ha,pz,F3 hc.hb hc.ha,eF];rw[E4 ha] at hcha;exact eh.1 hcha
  dsimp only
  split
  ·rename_i hy; exact absurd hy hcond
  ·rw[hφ _ _ hta,q1,eO,WV ha,WV ha,hfb,J6 hc.dd]
def swap {E:Env ρ} {call:List Nat→Bool→Nat→List AV→List Blk→(AV→List Blk→Option ρ)→Option ρ} {fid:Nat} {path:List Nat} {all:List Oper} {bef:List Nat} {acc:List (Nat×List Nat)} {ia na ib nb:Nat} {a b:Oper} {K:List Nat→List Nat→St→Option ρ} {r:ρ}
 (hpe:agj E call) (hc:ah6 E all bef ia ib a b) (hbd:Ē E.clone b.op=true→lkB h nb=.dead) (hn:Ē E.clone a.op=true→Ē E.clone b.op=true→na≠nb)
 (hfar1:Ē E.clone a.op=true→∀x∈b.op.operands.toList,na∉refs1 (ev t x))
 (hfar:1≤cls E b.op→Ē E.clone a.op=true→(∀p∈acc,∀c,all[p.1]?=some c→BB E c.op b.op=true→(bef.getD ib 0).testBit p.1=false→(bef.getD p.1 0).testBit ib=false→∀x∈b.op.operands.toList,∀id∈refs1 (ev t x),id∉p.2)→∀x∈b.op.operands.toList,na∉refs2 h (ev t x))
 (e:xe E call fid path all bef acc ia na a {t:=t,h:=h} (fun Fa S=>xe E call fid path all bef ((ia,Fa)::acc) ib nb b S (K Fa))=some r) :
 xe E call fid path all bef acc ib nb b {t:=t,h:=h} (fun Fb S=>xe E call fid path all bef ((ib,Fb)::acc) ia na a S fun Fa=>K Fa Fb)=some r:=by
 by_cases hb3:cls E b.op≤2
 case neg =>
  have:=afr E b.op;exact swap0 hc (hc.b3.resolve_left hb3) (by omega) e
 -- what a does
 obtain⟨φa,a0,a1,a2,_⟩:=Jv (t:=t) (t2:=t) (h:=h) (h2:=h) (call:=call) (fid:=fid) (path:=path) (i:=ia) (nid:=na) (all:=all) r hpe hc.a3 rfl (fun _ _=>rfl) (fun _ _ _ _ _ _=>rfl);unfold xe at e
 split at e<;>try (cases e; done)
 rename_i hcha;rw[a2] at e;obtain⟨⟨va,ea⟩,q1,q2⟩:=Η e;simp only at q2
 split at q2<;>try (cases q2; done)
 rename_i hchb;have hal1:=a1 _ q1;have hea:=a0 _ q1;simp only at hea
 -- b looks at the same
 have htb:∀s∈iD all b,lk (þ t a.dst va) s=lk t s:=fun s hs=>xz (hc.rb s hs) _;have htb':∀s∈iD all b,lk t s=lk (þ t a.dst va) s:=fun s hs=>(htb s hs).symm;have hxb:=HT htb;have hwb:Δ all b (þ t a.dst va)=Δ all b t:=iS htb
 have hne1:1≤cls E b.op→Δ all b t=some true→chk E all bef ((ia,xq E all a {t:=t,h:=h})::acc) ib (AD E {t:=þ t a.dst va,h:=aps ea h} b.op)=true:=fun _ hw=>by
  rw[hwb,hw] at hchb;simpa using hchb
 have hone:Δ all b t=some true→1≤cls E b.op→∀x∈b.op.operands.toList,∀id∈refs1 (ev t x),lkB (aps ea h) id=lkB h id:=fun hw h1 x hx id hi=>by
  refine QL fun p hp hid=>?_;rcases hea p hp with⟨h2,h3⟩|⟨h2,h3⟩
  ·exact hfar1 h3 x hx (by rw[←h2,hid]; exact hi)
  ·have hk:=hne1 h1 hw;rw[pz,cH] at hk;refine Db hk.1 hc.ha hc.hb hc.bba hc.bab (pN.2 (.inl ⟨h2,h1⟩)) p.1 h3 ?_;rw[hid];refine(pn h1).2 ⟨x,hx,?_⟩;rw[hxb x hx];simp only[refs2,cM];exact .inl hi
 have hrefs:Δ all b t=some true→1≤cls E b.op→∀x∈b.op.operands.toList,refs2 (aps ea h) (ev t x)=refs2 h (ev t x):=fun hw h1 x hx=>by
  have:∀(l:List Nat),(∀id∈l,lkB (aps ea h) id=lkB h id)→(l.flatMap fun id=>(No (lkB (aps ea h) id)).flatMap ĭ)=l.flatMap fun id=>(No (lkB h id)).flatMap ĭ:=by
   intro l
   induction l with
   |nil=>intro _; rfl
   |cons y l ih=>intro hl; simp only[dz]; rw[hl y (by simp),ih fun id hi=>hl id (by simp[hi])]
  simp only[refs2];rw[this _ (hone hw h1 x hx)]
 have hfar2:Δ all b t=some true→1≤cls E b.op→Ē E.clone a.op=true→∀x∈b.op.operands.toList,na∉refs2 h (ev t x):=fun hw h1 h2=>hfar h1 h2 fun p hp c hc1 hc2 hb1 hb2 x hx id hi hid=>by
  have hk:=hne1 h1 hw;rw[pz,cH] at hk;have hk2:=di.1 hk.2 p hp;refine Db hk2 hc1 hc.hb hb2 hb1 hc2 id hid ((pn h1).2 ⟨x,hx,?_⟩);rw[hxb x hx];simp only[refs2,cM];exact .inl hi
 have hsame:Δ all b t=some true→1≤cls E b.op→∀x∈b.op.operands.toList,oz h (aps ea h) (ev t x):=fun hw h1 x hx id hi=>by
  refine QL fun p hp hid=>?_;rcases hea p hp with⟨h2,h3⟩|⟨h2,h3⟩
  ·exact hfar2 hw h1 h3 x hx (by rw[←h2,hid]; exact hi)
  ·have hk:=hne1 h1 hw;rw[pz,cH] at hk;refine Db hk.1 hc.ha hc.hb hc.bba hc.bab (pN.2 (.inl ⟨h2,h1⟩)) p.1 h3 ?_;rw[hid];refine(pn h1).2 ⟨x,hx,?_⟩;rw[hxb x hx,hrefs hw h1 x hx];exact hi
 -- what b does
 obtain⟨φb,b0,b1,b2,b3⟩:=Jv (t:=t) (t2:=þ t a.dst va) (h:=h) (h2:=aps ea h) (call:=call) (fid:=fid) (path:=path) (i:=ib) (nid:=nb) (all:=all) r hpe hb3 (uJ _ _) htb hsame;have hfb:xq E all b {t:=þ t a.dst va,h:=aps ea h}=xq E all b {t:=t,h:=h}:=MT htb hsame;rw[b3] at q2;obtain⟨⟨vb,eb⟩,q3,q4⟩:=Η q2;simp only at q4;rw[hfb] at q4;have heb:=b0 _ q3;simp only at heb;have hfo:Δ all b t=some true→AD E {t:=þ t a.dst va,h:=aps ea h} b.op=AD E {t:=t,h:=h} b.op:=fun hw=>E5 hxb (hsame hw)
 -- a looks at the same
 have hta:∀s∈iD all a,lk (þ t b.dst vb) s=lk t s:=fun s hs=>xz (hc.ra s hs) _
 have hdisj:BB E a.op b.op=true→∀id∈xq E all a {t:=t,h:=h},id∉xq E all b {t:=t,h:=h}:=fun hcl id hi hj=>by
  unfold xq at hj;simp only at hj
  split at hj
  ·rename_i hw
   have h1:1≤cls E b.op:=by rcases pN.1 hcl with h|h<;>omega
   have hk:=hne1 h1 hw;rw[pz,cH,hfo hw] at hk;exact Db hk.1 hc.ha hc.hb hc.bba hc.bab hcl id hi hj
  ·cases hj
 have hsamea:Δ all a t=some true→1≤cls E a.op→∀x∈a.op.operands.toList,oz h (aps eb h) (ev t x):=fun hw h1 x hx id hi=>by
  have hidF:id∈xq E all a {t:=t,h:=h}:=by
   unfold xq;simp only[hw];exact(pn h1).2 ⟨x,hx,hi⟩
  refine QL fun p hp hid=>?_;rcases heb p hp with⟨h2,h3⟩|⟨h2,h3⟩
  ·exact hal1 id hidF (by rw[←hid,h2]; exact hbd h3)
  ·exact hdisj (pN.2 (.inr ⟨h1,h2⟩)) id hidF (hid▸h3)
 obtain⟨φa',a0',a1',a2',a3'⟩:=Jv (t:=t) (t2:=þ t b.dst vb) (h:=h) (h2:=aps eb h) (call:=call) (fid:=fid) (path:=path) (i:=ia) (nid:=na) (all:=all) r hpe hc.a3 (uJ _ _) hta hsamea;have hfa:xq E all a {t:=þ t b.dst vb,h:=aps eb h}=xq E all a {t:=t,h:=h}:=MT hta hsamea
 have h3:pQ E call fid path true all ia na a {t:=t,h:=h} (fun S=>K (xq E all a {t:=t,h:=h}) (xq E all b {t:=t,h:=h}) {t:=þ S.t b.dst vb,h:=aps eb S.h})=some r:=by rw[a2,q1]; exact q4
 rw[a2'] at h3;obtain⟨⟨va',ea'⟩,q5,q6⟩:=Η h3;simp only at q6;have hea':=a0' _ q5;simp only at hea'
 have hcomm:aps eb (aps ea' h)=aps ea' (aps eb h):=abr fun p hp q hq hpq=>by
  rcases hea' p hp with⟨h2,h3⟩|⟨h2,h3⟩<;>rcases heb q hq with⟨h4,h5⟩|⟨h4,h5⟩
  ·exact hn h3 h5 (by rw[←h2,←h4]; exact hpq)
  ·-- b would write a's new block
   have hw:Δ all b t=some true:=by
    unfold xq at h5;simp only at h5
    split at h5
    ·assumption
    ·cases h5
   have h5':q.1∈AD E {t:=t,h:=h} b.op:=by
    unfold xq at h5;simp only[hw] at h5;exact h5
   obtain⟨x,hx,hi⟩:=(pn (by omega)).1 h5';exact hfar2 hw (by omega) h3 x hx (by rw[←h2,hpq]; exact hi)
  ·exact hal1 p.1 h3 (by rw[hpq,h4]; exact hbd h5)
  ·exact hdisj (pN.2 (.inl ⟨h2,by omega⟩)) p.1 h3 (by rw[hpq]; exact h5)
 rw[J6 hc.dd,hcomm] at q6
 -- the checks
 have chb:(Δ all b t==some true&&!chk E all bef acc ib (AD E {t:=t,h:=h} b.op))=false:=by
  cases hw:Δ all b t==some true with
  |false=>rfl
  |true =>
   have hw':Δ all b t=some true:=by simpa using hw
   rw[hwb,hw] at hchb;simp only[eF,ff] at hchb ⊢;rw[pz,cH,hfo hw'] at hchb;exact hchb.2
 have cha:(Δ all a (þ t b.dst vb)==some true&&!chk E all bef ((ib,xq E all b {t:=t,h:=h})::acc) ia (AD E {t:=þ t b.dst vb,h:=aps eb h} a.op))=false:=by
  rw[iS hta]
  cases hw:Δ all a t==some true with
  |false=>rfl
  |true =>
   have hw':Δ all a t=some true:=by simpa using hw
   rw[hw] at hcha;simp only[eF,ff] at hcha ⊢;rw[E5 (HT hta) (hsamea hw'),pz,cH];refine⟨X6 ?_,hcha⟩
   have hfa0:xq E all a {t:=t,h:=h}=AD E {t:=t,h:=h} a.op:=by simp only[xq,hw']
   cases hwb':Δ all b t with
   |some wb=>cases wb with
    |true =>
     rw[hwb,hwb'] at hchb;simp only[beq_self_eq_true,eF,ff] at hchb;rw[pz,cH,hfo hwb',hfa0] at hchb;simp only[xq,hwb'];exact hchb.1
    |false=>simp only[xq,hwb']; exact F3 hc.ha hc.hb
   |none=>simp only[xq,hwb']; exact F3 hc.ha hc.hb
 unfold xe;simp only[chb];rw[b2,q3];simp only[Option.bind_some,cha];rw[a3',q5];simp only[Option.bind_some];rw[hfa];exact q6
abbrev Item:=Nat×Nat×Oper
def oK (clone:Nat→Bool):List Oper→Nat→Nat→List Item
 |[],_,_=>[]
 |o::os,i,nid=>(i,nid,o)::oK clone os (i+1) (bif Ē clone o.op then nid+1 else nid)
def aae (E:Env ρ) (call:List Nat→Bool→Nat→List AV→List Blk→(AV→List Blk→Option ρ)→Option ρ) (fid:Nat) (path:List Nat) (all:List Oper) (bef:List Nat):List Item→List (Nat×List Nat)→St→(St→Option ρ)→Option ρ
 |[],_,S,K=>K S
 |x::l,acc,S,K=>xe E call fid path all bef acc x.1 x.2.1 x.2.2 S fun F S=>aae E call fid path all bef l ((x.1,F)::acc) S K
def U7 {E:Env ρ} {call:List Nat→Bool→Nat→List AV→List Blk→(AV→List Blk→Option ρ)→Option ρ} {fid:Nat} {path:List Nat} {all:List Oper} {bef:List Nat}:∀(os:List Oper) (i nid:Nat) (acc:List (Nat×List Nat)) (S:St) (K:St→Option ρ),
 ad5 E call fid path all bef os i nid acc S K=aae E call fid path all bef (oK E.clone os i nid) acc S K
 |[],_,_,_,_,_=>rfl
 |o::os,i,nid,acc,S,K=>by
  rw[ad4];simp only[oK,aae];congr 1;funext F S';exact U7 os _ _ _ S' K
def ahH {E:Env ρ} {all:List Oper} {bef:List Nat} {acc acc':List (Nat×List Nat)} {i:Nat} {F:List Nat} (h:∀p,p∈acc↔p∈acc'):chk E all bef acc i F=chk E all bef acc' i F:=by
 rw[gI];simp only[chk,di]
 exact forall_congr' fun p=>by rw[h p]
def UB {E:Env ρ} {call:List Nat→Bool→Nat→List AV→List Blk→(AV→List Blk→Option ρ)→Option ρ} {fid:Nat} {path:List Nat} {all:List Oper} {bef:List Nat} {K:St→Option ρ}:∀(l:List Item) {acc acc':List (Nat×List Nat)} (S:St),(∀p,p∈acc↔p∈acc') →
 aae E call fid path all bef l acc S K=aae E call fid path all bef l acc' S K
 |[],_,_,_,_=>rfl
 |x::l,acc,acc',S,h=>by
  simp only[aae,xe];rw[ahH h]
  split
  ·rfl
  ·congr 1;funext S'
   exact UB l S' fun p=>by simp[h p]
def aiw {E:Env ρ} {call:List Nat→Bool→Nat→List AV→List Blk→(AV→List Blk→Option ρ)→Option ρ} {fid:Nat} {path:List Nat} {all:List Oper} {bef:List Nat} {b:Item} {rest:List Item} {K:St→Option ρ} {r:ρ} {h0:List Blk} {t0:List AV}
 (hpe:agj E call) :
 ∀(as:List Item) (acc:List (Nat×List Nat)) (t:List AV) (h:List Blk),(∀a∈as,ah6 E all bef a.1 b.1 a.2.2 b.2.2)→(∀s∈iD all b.2.2,lk t s=lk t0 s)→(Ē E.clone b.2.2.op=true→lkB h b.2.1=.dead) →
  (∀a∈as,Ē E.clone a.2.2.op=true→Ē E.clone b.2.2.op=true→a.2.1≠b.2.1)→(∀a∈as,Ē E.clone a.2.2.op=true→∀x∈b.2.2.op.operands.toList,a.2.1∉refs2 h0 (ev t0 x)) →
  (1≤cls E b.2.2.op→∀x∈b.2.2.op.operands.toList,∀id∈refs1 (ev t0 x),lkB h id=lkB h0 id∨∃p∈acc,(∃c,all[p.1]?=some c∧BB E c.op b.2.2.op=true∧(bef.getD b.1 0).testBit p.1=false∧(bef.getD p.1 0).testBit b.1=false)∧id∈p.2) →
  aae E call fid path all bef (as++b::rest) acc {t:=t,h:=h} K=some r→aae E call fid path all bef (b::(as++rest)) acc {t:=t,h:=h} K=some r
 |[],acc,t,h,_,_,_,_,_,_,e=>e
 |a::as,acc,t,h,hap,ht,hbd,hn,hfar,hinv,e=>by
  have hA:=hap a (by simp);have hx0:∀x∈b.2.2.op.operands.toList,ev t x=ev t0 x:=HT ht
  have hf1:Ē E.clone a.2.2.op=true→∀x∈b.2.2.op.operands.toList,a.2.1∉refs1 (ev t x):=fun hal x hx hi=>hfar a (by simp) hal x hx (by
   rw[hx0 x hx] at hi;simp only[refs2,cM]
   exact .inl hi)
  simp only[ft,aae] at e ⊢
  have fin:=swap (K:=fun Fa Fb S=>aae E call fid path all bef (as++rest) ((b.1,Fb)::(a.1,Fa)::acc) S K) (r:=r) (t:=t) (h:=h) (acc:=acc) (ia:=a.1) (na:=a.2.1) (ib:=b.1) (nb:=b.2.1) (a:=a.2.2) (b:=b.2.2) (fid:=fid) (path:=path) hpe hA hbd (hn a (by simp)) hf1
   (fun h1 hal hno x hx=>by
    rw[hx0 x hx];have hcells:∀id∈refs1 (ev t0 x),lkB h id=lkB h0 id:=fun id hi=>(hinv h1 x hx id hi).resolve_right fun⟨p,hp,⟨c,c1,c2,c3,c4⟩,hid⟩=>hno p hp c c1 c2 c3 c4 x hx id (by rw[hx0 x hx]; exact hi) hid
    have:refs2 h (ev t0 x)=refs2 h0 (ev t0 x):=by
     have key:∀(l:List Nat),(∀id∈l,lkB h id=lkB h0 id)→(l.flatMap fun id=>(No (lkB h id)).flatMap ĭ)=l.flatMap fun id=>(No (lkB h0 id)).flatMap ĭ:=by
      intro l
      induction l with
      |nil=>intro _; rfl
      |cons y l ih=>intro hl; simp only[dz]; rw[hl y (by simp),ih fun id hi=>hl id (by simp[hi])]
     simp only[refs2];rw[key _ hcells]
    rw[this]
    exact hfar a (by simp) hal x hx) ?_
  ·have hperm:∀(Fa Fb:List Nat) (S:St),aae E call fid path all bef (as++rest) ((b.1,Fb)::(a.1,Fa)::acc) S K=aae E call fid path all bef (as++rest) ((a.1,Fa)::(b.1,Fb)::acc) S K:=fun Fa Fb S=>UB _ S fun p=>by
    simp only[cN]
    constructor<;>rintro(h|h|h)<;>simp[h]
   simp only[hperm] at fin;exact fin
  ·-- behind a
   obtain⟨φa,a0,a1,a2,_⟩:=Jv (t:=t) (t2:=t) (h:=h) (h2:=h) (call:=call) (fid:=fid) (path:=path) (i:=a.1) (nid:=a.2.1) (all:=all) r hpe hA.a3 rfl (fun _ _=>rfl) (fun _ _ _ _ _ _=>rfl);unfold xe at e ⊢
   split at e<;>try (cases e; done)
   rename_i hcha;simp only[hcha];rw[a2] at e ⊢;obtain⟨⟨va,ea⟩,q1,q2⟩:=Η e;rw[q1];simp only[eO];have hal1:=a1 _ q1;have hea:=a0 _ q1;simp only at hea q2;refine aiw hpe as _ _ _ (fun c hc=>hap c (by simp[hc])) (fun s hs=>(xz (hA.rb s hs) _).trans (ht s hs)) (fun hal=>?_) (fun c hc=>hn c (by simp[hc])) (fun c hc=>hfar c (by simp[hc])) (fun h1 x hx id hi=>?_) q2
   ·refine(QL fun p hp hid=>?_).trans (hbd hal);rcases hea p hp with⟨h2,h3⟩|⟨h2,h3⟩
    ·exact hn a (by simp) h3 hal (h2.symm.trans hid)
    ·exact hal1 p.1 h3 (by rw[hid]; exact hbd hal)
   ·by_cases hin:∃p∈ea,p.1=id
    ·obtain⟨p,hp,hid⟩:=hin;rcases hea p hp with⟨h2,h3⟩|⟨h2,h3⟩
     ·exfalso;exact hf1 h3 x hx (by rw[hx0 x hx,←h2,hid]; exact hi)
     ·exact .inr ⟨(a.1,_),List.mem_cons_self ..,⟨a.2.2,hA.ha,pN.2 (.inl ⟨h2,h1⟩),hA.bab,hA.bba⟩,hid▸h3⟩
    ·have hne:lkB (aps ea h) id=lkB h id:=QL fun p hp hid=>hin ⟨p,hp,hid⟩;rw[hne];rcases hinv h1 x hx id hi with h2|⟨p,hp,h2⟩
     ·exact .inl h2
     ·exact .inr ⟨p,by simp[hp],h2⟩
section
variable {ν:Nat→Value} {w:World}
def VR0.refs {a:AV} {v:Value} (hv:VR0 ν h w a v):∀id∈ĭ a,lkB h id≠.dead:=by
 intro id hi hd
 cases a<;>simp only[ĭ,cP,f7] at hi
 ·subst hi; obtain⟨_,t,g',fz,xs,hl,_⟩:=hv; rw[hd] at hl; cases hl
 ·subst hi; obtain⟨_,t,g',fz,xs,hl,_⟩:=hv; rw[hd] at hl; cases hl
 ·subst hi; obtain⟨_,t,g',fz,hl,_⟩:=hv; rw[hd] at hl; cases hl
 ·subst hi; obtain⟨_,_,hl,_⟩:=hv; rw[hd] at hl; cases hl
 ·subst hi; obtain⟨_,t,g',fz,xs,hl,_⟩:=hv; rw[hd] at hl; cases hl
 ·subst hi; obtain⟨_,k,g',xss,hl,_⟩:=hv; rw[hd] at hl; cases hl
 ·subst hi; obtain⟨_,k,g',xss,hl,_⟩:=hv; rw[hd] at hl; cases hl
 ·subst hi; obtain⟨_,k,g',xss,hl,_⟩:=hv; rw[hd] at hl; cases hl
 ·subst hi; obtain⟨_,k,g',xss,hl,_⟩:=hv; rw[hd] at hl; cases hl
def VR1.refs {a:AV} {v:Value} (hv:VR1 ν h w a v):∀id∈ĭ a,lkB h id≠.dead:=by
 cases hf:a.isFn with
 |true=>cases a<;>first|(cases hf; done)|(intro id hi; cases hi)
 |false=>rw[xd hf] at hv; exact hv.refs
def ý.left_mem {α β:Type} {R:α→β→Prop}:∀{l:List α} {m:List β},ý R l m→∀a∈l,∃b∈m,R a b
 |[],_,_,a,ha=>by cases ha
 |x::l,y::m,h,a,ha=>by
  rcases cN.1 ha with rfl|ha
  ·exact⟨y,by simp,h.1⟩
  ·obtain⟨b,hb,hr⟩:=ý.left_mem h.2 a ha;exact⟨b,by simp[hb],hr⟩
 |_::_,[],h,_,_=>h.elim
def VR.refs1 {a:AV} {v:Value} (hv:VR ν h w a v):∀id∈Go.Am.refs1 a,lkB h id≠.dead:=by
 cases hag:a.isAgg with
 |true =>
  cases a<;>try cases hag
  obtain⟨us,_,h2⟩:=hv;intro id hi;simp only[Go.Am.refs1,dk] at hi;obtain⟨c,hc,hi⟩:=hi;obtain⟨u,_,hu⟩:=h2.left_mem c hc;exact hu.1.refs id hi
 |false =>
  cases htu:a.isTup with
  |true=>cases a<;>first|(cases htu; done)|(intro id hi; cases hi)
  |false =>
   have h1:=hv.one hag htu;have h2:=h1.refs
   cases a with
   |fn f fa fb =>
    obtain⟨fs,cs,_,h3,h4⟩:=h1
    have one:∀c u,VR0 ν h w c u→∀id∈adL c,lkB h id≠.dead:=fun c u hu id hi=>by
     cases c with
     |agg=>exact hu.elim
     |_=>exact hu.refs id hi
    intro id hi;simp only[Go.Am.refs1,cM,dk] at hi;rcases hi with⟨c,hc,hi⟩|⟨c,hc,hi⟩
    ·obtain⟨u,_,hu⟩:=h3.left_mem c hc;exact one c u hu id hi
    ·obtain⟨u,_,hu⟩:=h4.left_mem c hc;exact one c u hu id hi
   |agg=>cases hag
   |_=>exact h2
def VR.refs2 (H:HR ν h w) {a:AV} {v:Value} (hv:VR ν h w a v):∀id∈Go.Am.refs2 h a,lkB h id≠.dead:=by
 intro id hi;simp only[Go.Am.refs2,cM,dk] at hi;rcases hi with hi|⟨j,hj,c,hc,hi⟩
 ·exact hv.refs1 id hi
 ·have hB:=H.blk j
  cases hl:lkB h j with
  |cells cs =>
   rw[hl] at hB hc;obtain⟨b,arr,e,_,_,h3⟩:=hB;obtain⟨u,_,hu⟩:=h3.left_mem c hc;exact hu.1.refs id hi
  |_=>rw[hl] at hc; cases hc
end
end
end Go.Am
end

noncomputable section
namespace Go.Am
variable [Ghost]
section
variable {ρ:Type} {ν:Nat→Value} {h:List Blk} {w:World}
def afY (acc:List Nat) (o:Oper):Nat:=o.after.toList.foldl (fun s e=>if Region.binds .any e then s ||| 2 ^ e.on ||| acc.getD e.on 0 else s) 0
def Hx:∀(os:List Oper) (acc:List Nat),∃l,Θ os acc=acc++l∧∀(k:Nat) (o:Oper),os[k]?=some o→(acc++l).getD (acc.length+k) 0=afY ((acc++l).take (acc.length+k)) o
 |[],acc=>⟨[],by simp[Θ],by simp⟩
 |o::os,acc=>by
  obtain⟨l,h1,h2⟩:=Hx os (acc++[afY acc o]);refine⟨afY acc o::l,?_,?_⟩
  ·simp only[Θ];show Θ os (acc++[afY acc o])=_;rw[h1]; simp
  ·intro k o' hk
   cases k with
   |zero =>
    simp only[fL,Option.some.injEq] at hk;subst hk;simp[List.getD]
   |succ k =>
    have:=h2 k o' (by simpa using hk);simp only[cQ,List.singleton_append,cJ,dG] at this;rw[show acc.length+(k+1)=acc.length+1+k by omega];exact this
def afX {os:List Oper} {k:Nat} {o:Oper} (hk:os[k]?=some o):(Θ os []).getD k 0=afY ((Θ os []).take k) o:=by
 obtain⟨l,h1,h2⟩:=Hx os [];rw[h1];simpa using h2 k o hk
def Tv {acc:List Nat} {i:Nat}:∀(es:List Edge) (s:Nat),(es.foldl (fun s e=>if Region.binds .any e then s ||| 2 ^ e.on ||| acc.getD e.on 0 else s) s).testBit i=true →
 s.testBit i=true∨∃e∈es,Region.binds .any e=true∧(i=e.on∨(acc.getD e.on 0).testBit i=true)
 |[],s,h=>.inl h
 |e::es,s,h=>by
  simp only[gg] at h;rcases Tv es _ h with h1|⟨e',hm,h1⟩
  ·split at h1
   ·rename_i hb;simp only[Nat.testBit_or,Bool.or_eq_true,Nat.testBit_two_pow,decide_eq_true_eq] at h1;rcases h1 with(h1|h1)|h1
    ·exact .inl h1
    ·exact .inr ⟨e,by simp,hb,.inl h1.symm⟩
    ·exact .inr ⟨e,by simp,hb,.inr h1⟩
   ·exact .inl h1
  ·exact .inr ⟨e',by simp[hm],h1⟩
def y0 {E:Env ρ} {all:List Oper} {bef:List Nat}:∀{bs:List Oper} {j0:Nat},zX E all bef bs j0=true→∀(k:Nat) (b:Oper),bs[k]?=some b→∀(i:Nat) (a:Oper),i<j0+k→all[i]?=some a→ahE E all a b=false∨(bef.getD (j0+k) 0).testBit i=true
 |[],_,_,k,b,hk,_,_,_,_=>by simp at hk
 |x::bs,j0,h,k,b,hk,i,a,hi,ha=>by
  simp only[zX,cH,di,fO] at h
  cases k with
  |zero =>
   simp only[fL,Option.some.injEq] at hk;subst hk;have:=h.1 i (by omega);rw[ha] at this;simp only[Bool.or_eq_true,ee] at this;simpa using this
  |succ k =>
   have:=y0 h.2 k b (by simpa using hk) i a (by omega) ha
   rwa [show j0+1+k=j0+(k+1) by omega] at this
def wH:∀{os:List Oper} {j:Nat},Xr os j=true→∀(k:Nat) (o:Oper),os[k]?=some o→∀e∈o.after,Region.binds .any e=true→e.on<j+k
 |[],_,_,k,o,hk,_,_,_=>by simp at hk
 |x::os,j,h,k,o,hk,e,he,hb=>by
  simp only[Xr,cH,di] at h
  cases k with
  |zero =>
   simp only[fL,Option.some.injEq] at hk;subst hk;have:=h.1 e (by simpa using he);simp only[hb,dB,Bool.false_or,decide_eq_true_eq] at this;omega
  |succ k =>
   have:=wH h.2 k o (by simpa using hk) e he hb;omega
def bef_lt {os:List Oper} (hb:Xr os 0=true):∀(j i:Nat),((Θ os []).getD j 0).testBit i=true→i<j:=by
 intro j
 induction j using Nat.strongRecOn with
 |ind j ih =>
  intro i hi
  cases ho:os[j]? with
  |none =>
   obtain⟨l,h1,_⟩:=Hx os []
   have hlen:∀(os:List Oper) (acc:List Nat),(Θ os acc).length=acc.length+os.length:=by
    intro os
    induction os with
    |nil=>intro acc; simp[Θ]
    |cons o os ih=>intro acc; simp only[Θ]; rw[ih]; simp; omega
   have:(Θ os [])[j]?=none:=by
    rw[List.getElem?_eq_none_iff] at ho ⊢;rw[hlen]; simpa using ho
   simp[List.getD,this] at hi
  |some o =>
   rw[afX ho] at hi;rcases Tv _ _ hi with hz|⟨ed,h1,h2,h3⟩
   ·simp at hz
   ·have hlt:=wH hb j o ho ed (by simpa using h1) h2;rw[dw] at hlt;rcases h3 with rfl|h3
    ·exact hlt
    ·have:((Θ os []).getD ed.on 0).testBit i=true:=by
      rw[←h3];congr 1;simp only[List.getD,dO];rw[if_pos (by omega)]
     exact Nat.lt_trans (ih ed.on hlt i this) hlt
def qx {clone:Nat→Bool}:∀{os:List Oper} {i nid:Nat} {x:Item},x∈oK clone os i nid→∃k,os[k]?=some x.2.2∧x.1=i+k∧nid≤x.2.1∧(Ē clone x.2.2.op=true→x.2.1<nid+iE clone os)
 |[],_,_,_,hx=>by cases hx
 |o::os,i,nid,x,hx=>by
  simp only[oK,cN] at hx;rcases hx with rfl|hx
  ·exact⟨0,by simp,rfl,cG _,fun h=>by rw[nF]; simp only at h; rw[h]; simp⟩
  ·obtain⟨k,h1,h2,h3,h4⟩:=qx hx;refine⟨k+1,by simpa using h1,by omega,?_,fun h=>?_⟩
   ·cases hal:Ē clone o.op<;>rw[hal] at h3<;>simp at h3<;>omega
   ·have:=h4 h;rw[nF]
    cases hal:Ē clone o.op<;>rw[hal] at this<;>simp at this ⊢<;>omega
def EQ {clone:Nat→Bool}:∀{os:List Oper} {i nid k:Nat} {o:Oper},os[k]?=some o→∃n,(i+k,n,o)∈oK clone os i nid
 |[],_,_,k,_,h=>by simp at h
 |x::os,i,nid,0,o,h=>by
  simp only[fL,Option.some.injEq] at h;subst h;exact⟨nid,by simp[oK]⟩
 |x::os,i,nid,k+1,o,h=>by
  obtain⟨n,hn⟩:=EQ (clone:=clone) (i:=i+1) (nid:=bif Ē clone x.op then nid+1 else nid) (os:=os) (k:=k) (o:=o) (by simpa using h);exact⟨n,by simp only[oK,cN]; right; rwa [show i+(k+1)=i+1+k by omega]⟩
def Ha {clone:Nat→Bool}:∀{os:List Oper} {i nid:Nat},(oK clone os i nid).Pairwise fun x y=>x.1<y.1∧(Ē clone x.2.2.op=true→x.2.1<y.2.1)
 |[],_,_=>List.Pairwise.nil
 |o::os,i,nid=>by
  refine List.Pairwise.cons (fun y hy=>?_) Ha;obtain⟨k,_,h2,h3,_⟩:=qx hy;refine⟨by simp only; omega,fun hal=>?_⟩;simp only at hal;rw[hal] at h3;simp at h3 ⊢;omega
def acw {l:List Item} {p p':Item→Bool} {b:Item} (hp:l.Pairwise fun x y=>x.1<y.1) (hb:b∈l) (hpb:p b=true) (hpp:∀x∈l,p' x=(p x&&x.1 != b.1)) :
 ∃as rest,l.filter p=as++b::rest∧l.filter p'=as++rest∧∀a∈as,a∈l∧p a=true∧a.1<b.1:=by
 obtain⟨l1,l2,rfl⟩:=List.append_of_mem hb;rw[fW] at hp;obtain⟨_,h2,h3⟩:=hp;have h1:∀x∈l1,x.1<b.1:=fun x hx=>h3 x hx b (by simp);have h4:∀x∈l2,b.1<x.1:=fun x hx=>(dt.1 h2).1 x hx;refine⟨l1.filter p,l2.filter p,by simp[hpb],?_,fun a ha=>?_⟩
 ·have e1:l1.filter p'=l1.filter p:=List.filter_congr fun x hx=>by
   rw[hpp x (by simp[hx])]
   have:(x.1 != b.1)=true:=by have:=h1 x hx; simp; omega
   rw[this]; simp
  have e2:l2.filter p'=l2.filter p:=List.filter_congr fun x hx=>by
   rw[hpp x (by simp[hx])]
   have:(x.1 != b.1)=true:=by have:=h4 x hx; simp; omega
   rw[this]; simp
  have e3:p' b=false:=by rw[hpp b (by simp)]; simp
  simp[e1,e2,e3]
 ·rw[dH] at ha;exact⟨by simp[ha.1],ha.2,h1 a ha.1⟩
def aap {α:Type} {R:α→α→Prop}:∀{l:List α},l.Pairwise R→∀x∈l,∀y∈l,x=y∨R x y∨R y x
 |[],_,_,hx,_,_=>by cases hx
 |z::l,h,x,hx,y,hy=>by
  rw[dt] at h;rcases cN.1 hx with hx|hx
  ·rcases cN.1 hy with hy|hy
   ·exact .inl (hx.trans hy.symm)
   ·rw[hx]; exact .inr (.inl (h.1 y hy))
  ·rcases cN.1 hy with hy|hy
   ·rw[hy]; exact .inr (.inr (h.1 x hx))
   ·exact aap h.2 x hx y hy
def ahy {E:Env ρ} {call:List Nat→Bool→Nat→List AV→List Blk→(AV→List Blk→Option ρ)→Option ρ} {L:Nat} (hE:md E L call) {fid:Nat} {path:List Nat} {ops:Array Oper} (hp:path.length+1=L) (hg:su ops.toList ops.toList=true)
 (hd:afc E ops.toList=true) {base:Nat} {K:St→Option ρ} {r:ρ} {Q:Exit→Act→World→Prop} {m:Nat} (hmb:m≤base) :
 ∀(fuel:Nat) (listed:Array Bool) (acc:List (Nat×List Nat)) (S:St) (a:Act) (ν:Nat→Value) (w:World),listed.size=ops.size →
  (∀j i,listed.getD j false=true→((Θ ops.toList []).getD j 0).testBit i=true→listed.getD i false=true) →
  ((oK E.clone ops.toList 0 base).filter fun x=>!listed.getD x.1 true).length=fuel→Sim ν S a w →
  (∀x∈(oK E.clone ops.toList 0 base).filter fun x=>!listed.getD x.1 true,Ē E.clone x.2.2.op=true→x.2.1<S.h.length∧lkB S.h x.2.1=.dead)→m≤S.h.length →
  aae E call fid path ops.toList (Θ ops.toList []) ((oK E.clone ops.toList 0 base).filter fun x=>!listed.getD x.1 true) acc S K=some r →
  (∀ν' S' a' w',Sim ν' S' a' w'→Ev m ν S.h w ν' S'.h w'→m≤S'.h.length→Dd m S.h S'.h→K S'=some r→Q .normal a' w') →
  wpAnyIn fen 0 E.P .any ops Q fuel listed a w:=by
 simp only[afc,cH] at hd;obtain⟨hback,hdr⟩:=hd
 have getD_tf:∀{listed:Array Bool} {j:Nat},listed.size=ops.size→j<ops.size→listed.getD j true=listed.getD j false:=fun {listed j} hs hj=>by
  have:j<listed.size:=by omega
  simp[this]
 have hpw:=(Ha (clone:=E.clone) (os:=ops.toList) (i:=0) (nid:=base)).imp fun {x y} h=>h.1;intro fuel
 induction fuel with
 |zero =>
  intro listed acc S a ν w hsz hcl hlen H hdead hm e hQ;have hnil:=cX.1 hlen;refine⟨?_,?_⟩
  ·rw[List.eq_nil_iff_forall_not_mem];intro j hj;obtain⟨h0,o,ho,_⟩:=mem_ready.1 hj;obtain⟨n,hn⟩:=EQ (clone:=E.clone) (i:=0) (nid:=base) (os:=ops.toList) (k:=j) (o:=o) (by simpa using ho);have:(0+j,n,o)∈(oK E.clone ops.toList 0 base).filter fun x=>!listed.getD x.1 true:=dH.2 ⟨hn,by simp only[dw]; rw[h0]; rfl⟩;rw[hnil] at this;cases this
  ·rw[hnil] at e;exact hQ ν S a w H (Ev.refl _ _ _ _) hm (Dd.refl _ _) e
 |succ fuel ih =>
  intro listed acc S a ν w hsz hcl hlen H hdead hm e hQ;refine⟨fun hr=>?_,fun j hj=>?_⟩
  ·-- the first of those that are left is ready
   exfalso
   cases hrem:(oK E.clone ops.toList 0 base).filter fun x=>!listed.getD x.1 true with
   |nil=>rw[hrem] at hlen; simp at hlen
   |cons x l =>
    have hx:x∈(oK E.clone ops.toList 0 base).filter fun x=>!listed.getD x.1 true:=by rw[hrem]; simp
    rw[dH] at hx;obtain⟨k,h1,h2,_⟩:=qx hx.1
    have hk:x.1=k:=by omega
    have hready:x.1∈Region.ready .any ops listed:=mem_ready.2 ⟨by simpa using hx.2,x.2.2,by rw[hk]; simpa using h1,fun ed hed hb=>by
     have hlt:=wH hback k x.2.2 h1 ed hed hb
     have hks:k<ops.size:=by
      have:=(cI.1 h1).1;simpa using this
     cases hl:listed.getD ed.on false with
     |true=>rfl
     |false =>
      exfalso;obtain⟨o',ho'⟩:∃o',ops.toList[ed.on]?=some o':=⟨_,cF (by simp; omega)⟩;obtain⟨n,hn⟩:=EQ (clone:=E.clone) (i:=0) (nid:=base) ho'
      have hin:(0+ed.on,n,o')∈x::l:=by
       rw[←hrem];refine dH.2 ⟨hn,?_⟩;simp only[dw];rw[getD_tf hsz (by omega),hl];rfl
      have hpl:(x::l).Pairwise fun x y=>x.1<y.1:=by rw[←hrem]; exact hpw.filter _
      rcases cN.1 hin with h3|h3
      ·rw[←h3] at hk; simp at hk; omega
      ·have:=(dt.1 hpl).1 _ h3
       simp only at this; omega⟩
    rw[hr] at hready;cases hready
  ·obtain⟨h0,o,ho,hed⟩:=mem_ready.1 hj;have hjs:j<ops.size:=(eV.1 ho).1
   have hol:ops.toList[j]?=some o:=by simpa using ho
   obtain⟨n,hn⟩:=EQ (clone:=E.clone) (i:=0) (nid:=base) hol;rw[dw] at hn
   have hpp:∀x∈oK E.clone ops.toList 0 base,(fun x:Item=>!(listed.setIfInBounds j true).getD x.1 true) x=((fun x:Item=>!listed.getD x.1 true) x&&x.1 != j):=fun x hx=>by
    by_cases hxj:x.1=j
    ·simp only[hxj]
     have:j<listed.size:=by omega
     simp[this]
    ·have h1:(listed.setIfInBounds j true).getD x.1 true=listed.getD x.1 true:=getD_set_ne true (Ne.symm hxj)
     have h2:(x.1 != j)=true:=by simpa using hxj
     simp only[h1,h2,Bool.and_true]
   obtain⟨as,rest,f1,f2,f3⟩:=acw (b:=(j,n,o)) hpw hn (by simp only[h0]; rfl) hpp
   have hbit:∀i,((Θ ops.toList []).getD j 0).testBit i=true→listed.getD i false=true:=fun i hi=>by
    rw[afX hol] at hi;rcases Tv _ _ hi with hz|⟨ed,h1,h2,h3⟩
    ·simp at hz
    ·have hl:=hed ed (by simpa using h1) h2;rcases h3 with rfl|h3
     ·exact hl
     ·refine hcl ed.on i hl ?_;have hlt:=wH hback j o hol ed (by simpa using h1) h2;rw[←h3];congr 1;simp only[List.getD,dO];rw[if_pos (by omega)]
   have hpairs:=Ha (clone:=E.clone) (os:=ops.toList) (i:=0) (nid:=base)
   have hmemj:((j,n,o):Item)∈(oK E.clone ops.toList 0 base).filter fun x=>!listed.getD x.1 true:=by rw[f1]; simp
   have hne:∀x∈(oK E.clone ops.toList 0 base).filter (fun x=>!listed.getD x.1 true),x≠(j,n,o)→Ē E.clone x.2.2.op=true→Ē E.clone o.op=true→x.2.1≠n:=fun x hx hxj h1 h2=>by
    have hsub:((oK E.clone ops.toList 0 base).filter fun x=>!listed.getD x.1 true).Pairwise fun x y=>x.1<y.1∧(Ē E.clone x.2.2.op=true→x.2.1<y.2.1):=hpairs.filter _;rcases aap hsub x hx _ hmemj with he|hr|hr
    ·exact absurd he hxj
    ·exact fD (hr.2 h1)
    ·exact(fD (hr.2 h2)).symm
   rw[f1] at e
   have e':=aiw (b:=(j,n,o)) (h0:=S.h) (t0:=S.t) (K:=K) (r:=r) hE.pureEq as acc S.t S.h (fun x hx=>by
    obtain⟨g1,g2,g3⟩:=f3 x hx;obtain⟨k,h1,h2,_⟩:=qx g1
    have hk:x.1=k:=by omega
    have hkj:k<j:=by simp only at g3; omega
    have hnb:((Θ ops.toList []).getD j 0).testBit k=false:=by
     cases hb:((Θ ops.toList []).getD j 0).testBit k with
     |false=>rfl
     |true =>
      exfalso;have hl:=hbit k hb;simp only[ee] at g2;rw[getD_tf hsz (by omega),hk,hl] at g2;cases g2
    have hnb2:((Θ ops.toList []).getD k 0).testBit j=false:=by
     cases hb:((Θ ops.toList []).getD k 0).testBit j with
     |false=>rfl
     |true=>have:=bef_lt hback k j hb; omega
    have:=y0 hdr j o hol k x.2.2 (by omega) h1;rw[dw,hnb] at this;rw[←hk] at h1 hnb hnb2
    exact Zx (this.resolve_right (by simp)) h1 hol hnb hnb2)
    (fun _ _=>rfl)
    (fun hal=>(hdead _ hmemj hal).2)
    (fun x hx h1 h2=>hne x (by rw[f1]; simp[hx]) (fun he=>by
     have:=(f3 x hx).2.2;rw[he] at this
     simp at this) h1 h2)
    (fun x hx h1 y hy hmem=>VR.refs2 H.heap (Ņ H y) _ hmem ((hdead x (by rw[f1]; simp[hx]) h1).2)) (fun _ _ _ _ _=>.inl rfl) e
   simp only[aae,xe] at e'
   split at e'<;>try (cases e'; done)
   refine J0 hE.call hE.plain hE.clone hE.yld hg hp ho H (fun hal=>hdead _ hmemj hal) e' fun ν' w' u v S' g1 g2 g3 g4 g5 g6 g7=>?_;have hrem:((oK E.clone ops.toList 0 base).filter fun x=>!(listed.setIfInBounds j true).getD x.1 true)=as++rest:=f2
   have hin:∀x∈as++rest,x∈(oK E.clone ops.toList 0 base).filter fun x=>!listed.getD x.1 true:=fun x hx=>by
    rw[f1]
    rcases cM.1 hx with hx|hx<;>simp[hx]
   have hnj:∀x∈as++rest,x≠(j,n,o):=fun x hx he=>by
    rw[←hrem,dH] at hx;rw[he] at hx
    have hlt:j<listed.size:=by omega
    simp[hlt] at hx
   have hm':m≤S'.h.length:=cY hm g4;refine ih (listed.setIfInBounds j true) ((j,xq E ops.toList o S)::acc) {t:=þ S'.t o.dst v,h:=S'.h} _ ν' w' (by simpa using hsz) (fun j' i h1 h2=>?_) ?_ ?_ (fun x hx hal=>?_) hm' ?_ fun ν'' S'' a'' w'' q1 q2 q3 q4 q5=>hQ ν'' S'' a'' w'' q1 ((g3.mono hm).trans q2 (cG _)) q3 (fun i hi hdi=>q4 i hi ?_) q5
   ·by_cases hjj:j=j'
    ·subst hjj;exact getD_set_true (hbit i h2)
    ·rw[getD_set_ne false hjj] at h1;exact getD_set_true (hcl j' i h1 h2)
   ·rw[hrem];rw[f1] at hlen;simp only[cJ,cW] at hlen ⊢;omega
   ·rw[g6];exact H.put g3 g2 o.dst g1
   ·rw[hrem] at hx;obtain⟨h1,h2⟩:=hdead x (hin x hx) hal;refine⟨by simp only; omega,g5 _ h1 ?_ h2⟩
    by_cases hob:Ē E.clone o.op=true
    ·exact .inl (hne x (hin x hx) (hnj x hx) hal hob)
    ·exact .inr (by simpa using hob)
   ·rw[hrem];exact g7
   ·refine g5 i (by omega) ?_ hdi
    by_cases hob:Ē E.clone o.op=true
    ·left;obtain⟨k,_,_,h3,_⟩:=qx hn;simp only at h3;show i≠n;omega
    ·exact .inr (by simpa using hob)
def m8 {E:Env ρ} (hmix:E.P.follows .mixedOrders=true) (L:Nat) (call:List Nat→Bool→Nat→List AV→List Blk→(AV→List Blk→Option ρ)→Option ρ) (hE:md E L call):vf E L call:=by
 intro fid rid path ops S a K r m ν w hp e H hm;unfold Kc at e
 split at e<;>try (cases e; done)
 rename_i hg;simp only[eF,gB,ff] at hg;apply wpIn_region_any hmix;have hpre:=fun id=>Tg S.h (iE E.clone ops.toList) id;have H1:Sim ν {t:=S.t,h:=S.h++List.replicate (iE E.clone ops.toList) .dead} a {w with drawn:=w.drawn+1}:=H.same hpre rfl rfl rfl rfl;have ev0:Ev m ν S.h w ν (S.h++List.replicate (iE E.clone ops.toList) .dead) {w with drawn:=w.drawn+1}:=Ev.same (w:=w) (w':={w with drawn:=w.drawn+1}) hpre rfl rfl rfl rfl m
 have hall:((oK E.clone ops.toList 0 S.h.length).filter fun x=>!(Array.replicate ops.size false).getD x.1 true)=oK E.clone ops.toList 0 S.h.length:=by
  rw[fM];intro x hx;obtain⟨k,h1,h2,_⟩:=qx hx
  have hlt:k<ops.size:=by
   have:=(cI.1 h1).1;simpa using this
  have:x.1=k:=by omega
  simp[this,hlt]
 have hlen:∀(os:List Oper) (i nid:Nat),(oK E.clone os i nid).length=os.length:=by
  intro os
  induction os with
  |nil=>intros; rfl
  |cons o os ih=>intro i nid; simp[oK,ih]
 refine ahy (fid:=fid) (base:=S.h.length) (K:=K .normal) (r:=r) hE hp hg.2 hg.1 hm ops.size _ [] {t:=S.t,h:=S.h++List.replicate (iE E.clone ops.toList) .dead} a ν _ (by simp) (fun j i h1 _=>?_) ?_ H1 (fun x hx hal=>?_) ?_ ?_ fun ν' S' a' w' g1 g2 g3 g4 g5=>⟨ν',S',g1,ev0.trans g2 (cG _),g3,fun j hj hd=>g4 j hj (by simp only[hpre]; exact hd),g5⟩
 ·exfalso;rcases dg j ops.size with h|h
  ·simp[h] at h1
  ·simp[h] at h1
 ·rw[hall,hlen]; simp
 ·rw[hall] at hx;obtain⟨k,_,_,h3,h4⟩:=qx hx;have:=h4 hal;refine⟨by simp; omega,?_⟩;simp only[hpre];exact WJ _ _ h3
 ·simp; omega
 ·rw[hall,←U7];exact e
end
end Go.Am
end

noncomputable section
namespace Go.Am
structure aiy where
 clo:Nat
 ct:Ty
 et:Ty
 F:Val ct→Option (List (Val et))
def υ (it:aiy) (m:Val it.ct):List Blk:=[.acc it.et [],.cells (flat it.ct m)]
def zL:List AV:=[.yld,.box 1 0]
structure kj (P:Program) (it:aiy):Prop where
 agg:it.et.isAgg=false
 ok:∀(g:Ghost) (_:it.et=g.T) (m:Val it.ct) (xs:List (Val it.et)),it.F m=some xs→@YldP g P ⟨it.et,xs⟩→∀(ν:Nat→Value) (w:World) (vals:List Value),g.B≤w.heap.size→@HR g ν (υ it m) w→ý (@VR g ν (υ it m) w) zL vals →
  (∃fn c,P.funcs[it.clo]?=some fn∧fn.body=some c)∧CallsIn Fence.wide 0 P it.clo vals.toArray w fun e w'=>∃ν' h' u,e=.returned u∧@HR g ν' h' w'∧Ev 2 ν (υ it m) w ν' h' w'∧lkB h' 0=.acc it.et xs∧∃cs,lkB h' 1=.cells cs∧Ú it.ct cs=some m
def kj.mono {P:Program} {clo:Nat} {ct et:Ty} {F F':Val ct→Option (List (Val et))} (h:kj P ⟨clo,ct,et,F⟩) (hf:∀m xs,F' m=some xs→F m=some xs):kj P ⟨clo,ct,et,F'⟩ :=
 ⟨h.agg,fun g hT m xs e=>h.ok g hT m xs (hf m xs e)⟩
def nr0 (id:Nat):AV→Bool
 |.box j _=>!Nat.beq j id
 |_=>true
def nr1 (id:Nat):AV→Bool
 |.fn _ a b=>a.all (nr0 id)&&b.all (nr0 id)
 |v=>nr0 id v
def nr2 (id:Nat):AV→Bool
 |.agg cs=>cs.all (nr1 id)
 |v=>nr1 id v
def nr3 (id:Nat):AV→Bool
 |.tup cs=>cs.all (nr2 id)
 |v=>nr2 id v
def nrB (id:Nat):Blk→Bool
 |.cells cs=>cs.all (nr1 id)
 |_=>true
def clr (id:Nat) (v:AV):AV:=match nr3 id v with
 |true=>v
 |false=>.any
def ý.memR {α β:Type} {R R':α→β→Prop}:∀{l:List α} {m:List β},(∀a∈l,∀b,R a b→R' a b)→ý R l m→ý R' l m
 |[],[],_,_=>trivial
 |a::l,b::m,hr,h=>⟨hr a (by simp) b h.1,ý.memR (fun a ha=>hr a (by simp[ha])) h.2⟩
 |[],_::_,_,h=>h.elim
 |_::_,[],_,h=>h.elim
def aeB {f:Blk→Bool} (h0:f .dead=true):∀(l:List Blk),l.all f=true→∀i,f (lkB l i)=true
 |[],_,i=>by cases i<;>exact h0
 |x::l,h,0=>by simp only[fI,cH] at h; exact h.1
 |x::l,h,i+1=>by simp only[fI,cH] at h; exact aeB h0 l h.2 i
def aii {f:AV→Bool} (h0:f .any=true):∀(l:List AV),l.all f=true→∀i,f (lk l i)=true
 |[],_,i=>by cases i<;>exact h0
 |x::l,h,0=>by simp only[fI,cH] at h; exact h.1
 |x::l,h,i+1=>by simp only[fI,cH] at h; exact aii h0 l h.2 i
def aih {f:AV→AV} (h0:f .any=.any):∀(l:List AV) (i:Nat),lk (l.map f) i=f (lk l i)
 |[],i=>by cases i<;>exact h0.symm
 |x::l,0=>rfl
 |x::l,i+1=>aih h0 l i
section
variable {g:Ghost} {D:List Deferred} {Q:Option Nat} {M:Nat} {ν:Nat→Value} {h:List Blk} {w:World} {id b0:Nat} {cs:List AV}
abbrev ain (g:Ghost) (b0:Nat):Nat→Prop:=fun k=>g.G k∨k=b0
def afb (hl:lkB h id=.cells cs) (hν:ν id=.pointer (some ⟨b0,0,none⟩)) (k:Nat) (hk:@Av (g.re (ain g b0) D Q M) ν (ð h id .dead) k):@Av g ν h k:=by
 rcases hk with⟨j,hj,ho⟩|hk
 ·refine .inl ⟨j,?_,ho⟩;rw[wo] at hj
  split at hj
  ·cases hj
  ·exact hj
 ·rcases hk with hk|rfl
  ·exact .inr hk
  ·exact .inl ⟨id,by rw[hl]; rfl,by rw[hν]; rfl⟩
def TF (hl:lkB h id=.cells cs) (hν:ν id=.pointer (some ⟨b0,0,none⟩)) {a:AV} {v:Value} (hn:nr0 id a=true) (hv:@VR0 g ν h w a v):@VR0 (g.re (ain g b0) D Q M) ν (ð h id .dead) w a v:=by
 have sub:=afb (D:=D) (Q:=Q) (M:=M) (g:=g) hl hν
 have ne:∀{j:Nat} {B:Blk},lkB h j=B→(∀cs,B≠.cells cs)→lkB (ð h id .dead) j=B:=fun {j B} hj hB=>by
  rw[Ó _ (fun e=>by rw[e,hl] at hj; exact hB _ hj.symm)]; exact hj
 cases a with
 |slc t xs=>exact CR.mono sub hv
 |mp k t es=>exact CR.mono sub hv
 |eptr t x off =>
  obtain⟨b,o,us,h1,h2,h3,h4,h5⟩:=hv;exact⟨b,o,us,h1,fun q=>h2 (sub b q),h3,CR.mono sub h4,h5⟩
 |own j q=>obtain⟨h1,t,g',fz,xs,h2,h3⟩:=hv; exact⟨h1,t,g',fz,xs,ne h2 (by simp),h3⟩
 |sub j q lo n=>obtain⟨h1,t,g',fz,xs,h2,h3⟩:=hv; exact⟨h1,t,g',fz,xs,ne h2 (by simp),h3⟩
 |omp j=>obtain⟨h1,k,t,es,h2,h3⟩:=hv; exact⟨h1,k,t,es,ne h2 (by simp),h3⟩
 |optr j q i off=>obtain⟨h1,t,g',fz,xs,h2,h3⟩:=hv; exact⟨h1,t,g',fz,xs,ne h2 (by simp),h3⟩
 |dp j q=>obtain⟨h1,k,g',xss,h2,h3⟩:=hv; exact⟨h1,k,g',xss,ne h2 (by simp),h3⟩
 |dq j q i=>obtain⟨h1,k,g',xss,h2,h3⟩:=hv; exact⟨h1,k,g',xss,ne h2 (by simp),h3⟩
 |dr j q i=>obtain⟨h1,k,g',xss,h2,h3⟩:=hv; exact⟨h1,k,g',xss,ne h2 (by simp),h3⟩
 |de j q i o=>obtain⟨h1,k,g',xss,h2,h3⟩:=hv; exact⟨h1,k,g',xss,ne h2 (by simp),h3⟩
 |box j off =>
  obtain⟨c,b,h1,h2,h3⟩:=hv;refine⟨c,b,?_,h2,h3⟩;rw[Ó _ (fun e=>by simp[nr0,e] at hn)]; exact h1
 |_=>exact hv
def TE (hl:lkB h id=.cells cs) (hν:ν id=.pointer (some ⟨b0,0,none⟩)) {a:AV} {v:Value} (hn:nr1 id a=true) (hv:@VR1 g ν h w a v):@VR1 (g.re (ain g b0) D Q M) ν (ð h id .dead) w a v:=by
 cases hf:a.isFn with
 |true =>
  cases a<;>try cases hf
  obtain⟨fs,c,h1,h2,h3⟩:=hv;simp only[nr1,cH,di] at hn;exact⟨fs,c,h1,h2.memR fun a ha _=>TF hl hν (hn.1 a ha),h3.memR fun a ha _=>TF hl hν (hn.2 a ha)⟩
 |false =>
  rw[@xd (g.re _ _ _ _) _ _ _ _ _ hf];rw[@xd g _ _ _ _ _ hf] at hv;refine TF hl hν ?_ hv
  cases a<;>first|exact hn|cases hf
def aa8 (hl:lkB h id=.cells cs) (hν:ν id=.pointer (some ⟨b0,0,none⟩)) {a:AV} {v:Value} (hn:nr2 id a=true) (hv:@VR2 g ν h w a v):@VR2 (g.re (ain g b0) D Q M) ν (ð h id .dead) w a v:=by
 cases hf:a.isAgg with
 |true =>
  cases a<;>try cases hf
  obtain⟨vs,h1,h2⟩:=hv;simp only[nr2,di] at hn;exact⟨vs,h1,h2.memR fun a ha _ hc=>⟨TE hl hν (hn a ha) hc.1,hc.2⟩⟩
 |false =>
  rw[@zn (g.re _ _ _ _) _ _ _ _ _ hf];rw[@zn g _ _ _ _ _ hf] at hv;refine TE hl hν ?_ hv
  cases a<;>first|exact hn|cases hf
def ajz (hl:lkB h id=.cells cs) (hν:ν id=.pointer (some ⟨b0,0,none⟩)) {a:AV} {v:Value} (hn:nr3 id a=true) (hv:@VR g ν h w a v):@VR (g.re (ain g b0) D Q M) ν (ð h id .dead) w a v:=by
 cases hf:a.isTup with
 |true =>
  cases a<;>try cases hf
  obtain⟨vs,h1,h2⟩:=hv;simp only[nr3,di] at hn;exact⟨vs,h1,h2.memR fun a ha _=>aa8 hl hν (hn a ha)⟩
 |false =>
  rw[@xp (g.re _ _ _ _) _ _ _ _ _ hf];rw[@xp g _ _ _ _ _ hf] at hv;refine aa8 hl hν ?_ hv
  cases a<;>first|exact hn|cases hf
def ajA (hl:lkB h id=.cells cs) (hν:ν id=.pointer (some ⟨b0,0,none⟩)) (hnr:(ð h id .dead).all (nrB id)=true) (H:@HR g ν h w):@HR (g.re (ain g b0) D Q M) ν (ð h id .dead) w:=by
 have sub:=afb (D:=D) (Q:=Q) (M:=M) (g:=g) hl hν;have hid:id<h.length:=Ű hl (by simp)
 have lv:∀{j},(lkB (ð h id .dead) j).live=true→j≠id∧(lkB h j).live=true:=fun {j} hj=>by
  rw[wo] at hj
  split at hj
  ·cases hj
  ·rename_i hn;exact⟨fun e=>hn ⟨e,hid⟩,hj⟩
 have hb0:∃c e,w.heap[b0]?=some (.cells c e (0,0)):=by
  have:=@HR.blk g _ _ _ H id;rw[hl] at this;obtain⟨b,c,e,q1,q2,_⟩:=this;rw[hν] at q1; cases q1;exact⟨c,e,q2⟩
 refine @HR.mk (g.re (ain g b0) D Q M) _ _ _ (fun j=>?_) (fun i j b hi hj=>@HR.inj g _ _ _ H i j b (lv hi).2 (lv hj).2) (fun k hk=>?_) (fun j k hj hb hk=>?_)
 ·by_cases hj:j=id
  ·rw[hj,â _ hid]; trivial
  ·have hnb:=aeB rfl _ hnr j;rw[Ó _ hj] at hnb ⊢;have hB:=@HR.blk g _ _ _ H j
   cases hl2:lkB h j with
   |dead=>trivial
   |cells c =>
    rw[hl2] at hB hnb;obtain⟨b,c,e,h1,h2,h3⟩:=hB;simp only[nrB,di] at hnb;exact⟨b,c,e,h1,h2,h3.memR fun a ha _ hc=>⟨TE hl hν (hnb a ha) hc.1,hc.2⟩⟩
   |row t g' fz xs =>
    rw[hl2] at hB
    cases fz with
    |true=>exact CR.mono sub hB
    |false =>
     obtain⟨base,cap,h1,h2,h3⟩:=hB;refine⟨base,cap,h1,h2,h3.imp (fun z=>z) fun⟨b,off,c,e,h4,h5,h6,h7⟩=>⟨b,off,c,e,h4,h5,h6,fun i x hx=>?_⟩⟩;obtain⟨us,q1,q2⟩:=h7 i x hx;exact⟨us,CR.mono sub q1,q2⟩
   |map k v es =>
    rw[hl2] at hB;obtain⟨b,entries,clock,h1,h2,h3,h4⟩:=hB;refine⟨b,entries,clock,h1,h2,h3,fun i x hx=>?_⟩;obtain⟨m,us,q1,q2,q3,q4⟩:=h4 i x hx;exact⟨m,us,q1,CR.mono sub q2,CR.mono sub q3,q4⟩
   |deep k g' xss=>rw[hl2] at hB; exact hB
   |acc t xs =>
    rw[hl2] at hB;obtain⟨us,h1,h2,h3,h4⟩:=hB;exact⟨us,h1,h2,h3,g.st _ _ _ _ _ _ h4 ⟨rfl,rfl,rfl,cG _,fun b _ hn hx=>hn (sub b hx),fun b o hb _ _=>hb,fun b o hb _ _=>hb⟩⟩
 ·rcases hk with hk|rfl
  ·exact @HR.ghlt g _ _ _ H k hk
  ·obtain⟨c,e,q⟩:=hb0;exact ď q
 ·obtain⟨h1,h2⟩:=lv hj;rcases hk with hk|rfl
  ·exact @HR.ghne g _ _ _ H j k h2 hb hk
  ·exact h1 (@HR.inj g _ _ _ H j id k h2 (by rw[hl]; rfl) hb (by rw[hν]; rfl))
end
section
variable {g:Ghost} {G1:Nat→Prop} {D D1:List Deferred} {Q Q1:Option Nat} {M M1:Nat} {ν:Nat→Value} {h:List Blk} {w:World} {id b0:Nat} {cs:List AV}
def af0 {P:Blk→Prop} (hd:lkB h id=.dead) {j:Nat} {B:Blk} (hj:lkB h j=B) (hB:B≠.dead) (C:Blk) (V:Value):lkB (ð h id C) j=B∧ï ν id V j=ν j:=by
 letI:Ghost:=Gh fun _=>False
 have:j≠id:=fun e=>by rw[e,hd] at hj; exact hB hj.symm
 exact⟨by rw[Ó _ this]; exact hj,ė _ _ this⟩
def af1 (hid:id<h.length) (hG:∀b,g.G b→G1 b) (hb0:G1 b0) (k:Nat) (hk:@Av (g.re g.G D Q M) (ï ν id (.pointer (some ⟨b0,0,none⟩))) (ð h id (.cells cs)) k):@Av (g.re G1 D1 Q1 M1) ν h k:=by
 rcases hk with⟨j,hj,ho⟩|hk
 ·by_cases e:j=id
  ·rw[e,Ï] at ho; cases ho; exact .inr hb0
  ·rw[Ó _ e] at hj; rw[ė _ _ e] at ho; exact .inl ⟨j,hj,ho⟩
 ·exact .inr (hG k hk)
def TX (hd:lkB h id=.dead) (hid:id<h.length) (hG:∀b,g.G b→G1 b) (hb0:G1 b0) {a:AV} {v:Value} (hv:@VR0 (g.re G1 D1 Q1 M1) ν h w a v):@VR0 (g.re g.G D Q M) (ï ν id (.pointer (some ⟨b0,0,none⟩))) (ð h id (.cells cs)) w a v:=by
 have sub:=af1 (D:=D) (Q:=Q) (M:=M) (D1:=D1) (Q1:=Q1) (M1:=M1) (ν:=ν) (cs:=cs) hid hG hb0;have ne:∀{j:Nat} {B:Blk},lkB h j=B→B≠.dead→lkB (ð h id (.cells cs)) j=B:=fun {j B} hj hB=>(af0 (P:=fun _=>True) (ν:=ν) hd hj hB _ .nilFunc).1;have nv:∀{j:Nat} {B:Blk},lkB h j=B→B≠.dead→ï ν id (.pointer (some ⟨b0,0,none⟩)) j=ν j:=fun {j B} hj hB=>(af0 (P:=fun _=>True) (ν:=ν) hd hj hB (.cells cs) _).2
 cases a with
 |slc t xs=>exact CR.mono sub hv
 |mp k t es=>exact CR.mono sub hv
 |eptr t x off =>
  obtain⟨b,o,us,h1,h2,h3,h4,h5⟩:=hv;exact⟨b,o,us,h1,fun q=>h2 (sub b q),h3,CR.mono sub h4,h5⟩
 |own j q=>obtain⟨h1,t,g',fz,xs,h2,h3⟩:=hv; exact⟨h1,t,g',fz,xs,ne h2 (by simp),by rw[nv h2 (by simp)]; exact h3⟩
 |sub j q lo n=>obtain⟨h1,t,g',fz,xs,h2,h3⟩:=hv; exact⟨h1,t,g',fz,xs,ne h2 (by simp),by rw[nv h2 (by simp)]; exact h3⟩
 |omp j=>obtain⟨h1,k,t,es,h2,h3⟩:=hv; exact⟨h1,k,t,es,ne h2 (by simp),by rw[nv h2 (by simp)]; exact h3⟩
 |optr j q i off=>obtain⟨h1,t,g',fz,xs,h2,h3⟩:=hv; exact⟨h1,t,g',fz,xs,ne h2 (by simp),by rw[nv h2 (by simp)]; exact h3⟩
 |dp j q=>obtain⟨h1,k,g',xss,h2,h3⟩:=hv; exact⟨h1,k,g',xss,ne h2 (by simp),by rw[nv h2 (by simp)]; exact h3⟩
 |dq j q i=>obtain⟨h1,k,g',xss,h2,h3⟩:=hv; exact⟨h1,k,g',xss,ne h2 (by simp),by rw[nv h2 (by simp)]; exact h3⟩
 |dr j q i=>obtain⟨h1,k,g',xss,h2,h3⟩:=hv; exact⟨h1,k,g',xss,ne h2 (by simp),by rw[nv h2 (by simp)]; exact h3⟩
 |de j q i o=>obtain⟨h1,k,g',xss,h2,h3⟩:=hv; exact⟨h1,k,g',xss,ne h2 (by simp),by rw[nv h2 (by simp)]; exact h3⟩
 |box j off=>obtain⟨c,b,h1,h2,h3⟩:=hv; exact⟨c,b,ne h1 (by simp),by rw[nv h1 (by simp)]; exact h2,h3⟩
 |_=>exact hv
def TW (hd:lkB h id=.dead) (hid:id<h.length) (hG:∀b,g.G b→G1 b) (hb0:G1 b0) {a:AV} {v:Value} (hv:@VR1 (g.re G1 D1 Q1 M1) ν h w a v):@VR1 (g.re g.G D Q M) (ï ν id (.pointer (some ⟨b0,0,none⟩))) (ð h id (.cells cs)) w a v:=by
 cases hf:a.isFn with
 |true =>
  cases a<;>try cases hf
  obtain⟨fs,c,h1,h2,h3⟩:=hv;exact⟨fs,c,h1,h2.mono fun _ _=>TX hd hid hG hb0,h3.mono fun _ _=>TX hd hid hG hb0⟩
 |false =>
  rw[@xd (g.re _ _ _ _) _ _ _ _ _ hf];rw[@xd (g.re G1 _ _ _) _ _ _ _ _ hf] at hv;exact TX hd hid hG hb0 hv
def abo (hd:lkB h id=.dead) (hid:id<h.length) (hG:∀b,g.G b→G1 b) (hb0:G1 b0) {a:AV} {v:Value} (hv:@VR2 (g.re G1 D1 Q1 M1) ν h w a v):@VR2 (g.re g.G D Q M) (ï ν id (.pointer (some ⟨b0,0,none⟩))) (ð h id (.cells cs)) w a v:=by
 cases hf:a.isAgg with
 |true =>
  cases a<;>try cases hf
  obtain⟨vs,h1,h2⟩:=hv;exact⟨vs,h1,h2.mono fun _ _ hc=>⟨TW hd hid hG hb0 hc.1,hc.2⟩⟩
 |false =>
  rw[@zn (g.re _ _ _ _) _ _ _ _ _ hf];rw[@zn (g.re G1 _ _ _) _ _ _ _ _ hf] at hv;exact TW hd hid hG hb0 hv
def ajO (hd:lkB h id=.dead) (hid:id<h.length) (hG:∀b,g.G b→G1 b) (hb0:G1 b0) {a:AV} {v:Value} (hv:@VR (g.re G1 D1 Q1 M1) ν h w a v):@VR (g.re g.G D Q M) (ï ν id (.pointer (some ⟨b0,0,none⟩))) (ð h id (.cells cs)) w a v:=by
 cases hf:a.isTup with
 |true =>
  cases a<;>try cases hf
  obtain⟨vs,h1,h2⟩:=hv;exact⟨vs,h1,h2.mono fun _ _=>abo hd hid hG hb0⟩
 |false =>
  rw[@xp (g.re _ _ _ _) _ _ _ _ _ hf];rw[@xp (g.re G1 _ _ _) _ _ _ _ _ hf] at hv;exact abo hd hid hG hb0 hv
def ajP (hd:lkB h id=.dead) (hid:id<h.length) (hG:∀b,g.G b→G1 b) (hb0:G1 b0) (hgb:¬g.G b0) {c:Array Value} {e:TypeId} (hw:w.heap[b0]?=some (.cells c e (0,0)))
 (hc:ý (@VRc (g.re g.G D Q M) (ï ν id (.pointer (some ⟨b0,0,none⟩))) (ð h id (.cells cs)) w) cs c.toList) (H:@HR (g.re G1 D1 Q1 M1) ν h w):@HR (g.re g.G D Q M) (ï ν id (.pointer (some ⟨b0,0,none⟩))) (ð h id (.cells cs)) w:=by
 have sub:=af1 (D:=D) (Q:=Q) (M:=M) (D1:=D1) (Q1:=Q1) (M1:=M1) (ν:=ν) (cs:=cs) hid hG hb0
 have lv:∀{j b},(lkB (ð h id (.cells cs)) j).live=true→Ļ (ï ν id (.pointer (some ⟨b0,0,none⟩)) j) b→(j=id∧b=b0)∨(j≠id∧(lkB h j).live=true∧Ļ (ν j) b):=fun {j b} hj ho=>by
  by_cases q:j=id
  ·rw[q,Ï] at ho; cases ho; exact .inl ⟨q,rfl⟩
  ·rw[Ó _ q] at hj; rw[ė _ _ q] at ho; exact .inr ⟨q,hj,ho⟩
 refine @HR.mk (g.re g.G D Q M) _ _ _ (fun j=>?_) (fun i j b hi hj hbi hbj=>?_) (fun k hk=>@HR.ghlt (g.re G1 D1 Q1 M1) _ _ _ H k (hG k hk)) (fun j k hj hb hk=>?_)
 ·by_cases hj:j=id
  ·rw[hj,â _ hid];exact⟨b0,c,e,Ï _ _ _,hw,hc⟩
  ·rw[Ó _ hj];have hB:=@HR.blk (g.re G1 D1 Q1 M1) _ _ _ H j;have hν:=ė ν (.pointer (some ⟨b0,0,none⟩)) hj
   cases hl2:lkB h j with
   |dead=>trivial
   |cells c2 =>
    rw[hl2] at hB;obtain⟨b,c3,e3,h1,h2,h3⟩:=hB;exact⟨b,c3,e3,hν.trans h1,h2,h3.mono fun _ _ hq=>⟨TW hd hid hG hb0 hq.1,hq.2⟩⟩
   |row t g' fz xs =>
    rw[hl2] at hB
    cases fz with
    |true =>
     show CR w _ _ _ [ï ν id _ j];rw[hν]; exact CR.mono sub hB
    |false =>
     obtain⟨base,cap,h1,h2,h3⟩:=hB;refine⟨base,cap,hν.trans h1,h2,h3.imp (fun z=>z) fun⟨b,off,c,e,h4,h5,h6,h7⟩=>⟨b,off,c,e,h4,h5,h6,fun i x hx=>?_⟩⟩;obtain⟨us,q1,q2⟩:=h7 i x hx;exact⟨us,CR.mono sub q1,q2⟩
   |map k v es =>
    rw[hl2] at hB;obtain⟨b,entries,clock,h1,h2,h3,h4⟩:=hB;refine⟨b,entries,clock,hν.trans h1,h2,h3,fun i x hx=>?_⟩;obtain⟨m,us,q1,q2,q3,q4⟩:=h4 i x hx;exact⟨m,us,q1,CR.mono sub q2,CR.mono sub q3,q4⟩
   |deep k g' xss =>
    rw[hl2] at hB;obtain⟨base,cap,us,h1,h2⟩:=hB;exact⟨base,cap,us,hν.trans h1,h2⟩
   |acc t xs =>
    rw[hl2] at hB;obtain⟨us,h1,h2,h3,h4⟩:=hB;refine⟨us,hν.trans h1,by rw[hν]; exact h2,h3,?_⟩;rw[hν];exact g.st _ _ _ _ _ _ h4 ⟨rfl,rfl,rfl,cG _,fun b _ hn hx=>hn (sub b hx),fun b o hb _ _=>hb,fun b o hb _ _=>hb⟩
 ·have hne:∀{j b},(lkB h j).live=true→Ļ (ν j) b→b≠b0:=fun {j b} q1 q2 q3=>@HR.ghne (g.re G1 D1 Q1 M1) _ _ _ H j b q1 q2 (by rw[q3]; exact hb0)
  rcases lv hi hbi with⟨q1,q2⟩|⟨q1,q2,q3⟩<;>rcases lv hj hbj with⟨q4,q5⟩|⟨q4,q5,q6⟩
  ·rw[q1,q4]
  ·exact absurd q2 (hne q5 q6)
  ·exact absurd q5 (hne q2 q3)
  ·exact @HR.inj (g.re G1 D1 Q1 M1) _ _ _ H i j b q2 q5 q3 q6
 ·rcases lv hj hb with⟨q1,q2⟩|⟨q1,q2,q3⟩
  ·rw[q2] at hk; exact hgb hk
  ·exact @HR.ghne (g.re G1 D1 Q1 M1) _ _ _ H j k q2 q3 (hG k hk)
end
def st0 (pin:Nat):AV→Bool
 |.any=>true
 |.und=>true
 |.bool _=>true
 |.int _ _=>true
 |.str _=>true
 |.nils=>true
 |.slc _ _=>true
 |.nilm=>true
 |.mp _ _ _=>true
 |.nilp=>true
 |.nilfn=>true
 |.yld=>true
 |.box id _=>Nat.blt id pin
 |_=>false
def st3 (pin:Nat):AV→Bool
 |.fn _ a b=>a.all (st0 pin)&&b.all (st0 pin)
 |a=>st0 pin a
section
variable [Ghost] {ν ν':Nat→Value} {h h':List Blk} {w w':World} {pin:Nat}
def VR0.stab (e:Ev pin ν h w ν' h' w') {a:AV} {v:Value} (hp:st0 pin a=true) (hv:VR0 ν h w a v):VR0 ν' h' w' a v:=by
 cases a with
 |box id off =>
  obtain⟨cs,b,hl,h1,h2⟩:=hv;have hlt:id<pin:=eZ hp;have hb:=e.blk id hlt;rw[hl] at hb;obtain⟨⟨cs',hl'⟩,he⟩:=hb;exact⟨cs',b,hl',by rw[he]; exact h1,h2⟩
 |slc t xs=>exact CR.keep e.keepA hv
 |mp k t es=>exact CR.keep e.keepA hv
 |own=>cases hp
 |sub=>cases hp
 |omp=>cases hp
 |optr=>cases hp
 |eptr=>cases hp
 |dp=>cases hp
 |dq=>cases hp
 |dr=>cases hp
 |de=>cases hp
 |fn=>cases hp
 |agg=>cases hp
 |tup=>cases hp
 |_=>exact hv
def VR.stab (e:Ev pin ν h w ν' h' w') {a:AV} {v:Value} (hp:st3 pin a=true) (hv:VR ν h w a v):VR ν' h' w' a v:=by
 cases a with
 |fn f fa fb =>
  obtain⟨fs,cs,h1,h2,h3⟩:=hv;simp only[st3,cH,di] at hp;exact⟨fs,cs,h1,h2.memR fun a ha _=>VR0.stab e (hp.1 a ha),h3.memR fun a ha _=>VR0.stab e (hp.2 a ha)⟩
 |agg=>cases hp
 |tup=>cases hp
 |any=>trivial
 |und=>exact hv
 |bool=>exact hv
 |int=>exact hv
 |str=>exact hv
 |nils=>exact hv
 |nilm=>exact hv
 |nilp=>exact hv
 |nilfn=>exact hv
 |yld=>exact hv
 |box id off=>exact VR0.stab (a:=.box id off) e hp hv
 |slc t xs=>exact VR0.stab (a:=.slc t xs) e rfl hv
 |mp k t es=>exact VR0.stab (a:=.mp k t es) e rfl hv
 |own=>cases hp
 |sub=>cases hp
 |omp=>cases hp
 |optr=>cases hp
 |eptr=>cases hp
 |dp=>cases hp
 |dq=>cases hp
 |dr=>cases hp
 |de=>cases hp
def ajw {t:Ty} (ht:t.isAgg=false) {x:Val t} {u:Value} (hx:CR w (Av ν h) t x [u]):VR ν h w (enc t x) u:=by
 have hf:flat t x=[enc t x]:=by cases t<;>first|rfl|cases ht
 have:=lR (ν:=ν) (h:=h) hx;rw[hf] at this;exact VR1.up this.1.1
end
def ħ (P:Program) (f:Nat):Option Code :=
 match P.funcs[f]? with
 |some fn=>fn.body
 |none=>none
structure FN (ρ:Type) where
 path:List Nat
 fid:Nat
 bid:Nat
 pin:Nat
 cs:List Ty
 vs:List Ty
 head:Tpl
 it:aiy
 bF:Val (tyL cs)→Val (tyL vs)→Val it.et→(Val (tyL vs)→Option ρ)→Option ρ
section
variable {ρ:Type}
def AI (E:Env ρ) (call:List Nat→Bool→Nat→List AV→List Blk→(AV→List Blk→Option ρ)→Option ρ) (fid:Nat) (path:List Nat) (pin bid:Nat) (it:LI) (S:St) (y:AV) (kn:St→Option ρ):Option ρ :=
 match it with
 |.rf _ ps a b=>match ps.toList with
  |[p]=>goC E call fid path pin bid a {t:=upd S.t p y,h:=S.h} fun e S=>match e with
   |.normal=>goC E call fid path pin bid b S fun e S=>match e with
    |.normal=>kn S
    |_=>none
   |_=>none
  |_=>none
 |_=>none
def FN.back (x:FN ρ) (kn:Val (tyL x.cs)→Val (tyL x.vs)→Option ρ) (S:St):Option ρ:=match AR x.head x.pin x.cs x.vs S with
 |some (p,v)=>kn p v
 |none=>none
structure FN.Ok (E:Env ρ) (x:FN ρ):Prop where
 one:(((ħ E.P x.fid).elim [] (Ý 0)).filter fun y=>Nat.beq y.1 x.bid).length=1
 it:kj E.P x.it
 tm:∀p v v',(ü x.head x.cs x.vs p v').t=(ü x.head x.cs x.vs p v).t
 stab:∀p v,(ü x.head x.cs x.vs p v).t.all (st3 x.pin)=true
 law:∀p v y (kn:Val (tyL x.cs)→Val (tyL x.vs)→Option ρ),AI E (ŵ E (10-x.path.length / 2)) x.fid x.path x.pin x.bid (mj (ħ E.P x.fid) x.bid) (ü x.head x.cs x.vs p v) (enc x.it.et y) (x.back kn)=x.bF p v y (kn p)
def rngK (x:FN ρ) (m:Nat) (g:AV) (S:St) (K:Exit→St→Option ρ):Option ρ :=
 match Nat.ble m x.pin with
 |true=>match g with
  |.fn (.func c) [] [.box id 0]=>match Nat.beq c x.it.clo with
   |true=>match lkB S.h id with
    |.cells cs=>match cs.all (fun a=>!CU a)&&(ð S.h id .dead).all (nrB id) with
     |true=>match Ú x.it.ct cs with
      |some d=>match AR x.head x.pin x.cs x.vs {t:=S.t.map (clr id),h:=ð S.h id .dead} with
       |some (p,v)=>Ä (x.it.F d) fun xs=>yV (x.bF p) xs v fun v=>K .normal (bif Nat.blt id x.pin then {t:=(ü x.head x.cs x.vs p v).t,h:=ð (ü x.head x.cs x.vs p v).h id (.cells (flat x.it.ct d))} else ü x.head x.cs x.vs p v)
       |none=>none
      |none=>none
     |false=>none
    |_=>none
   |false=>none
  |_=>none
 |false=>none
structure RJ (g:Ghost) (x:FN ρ) (ν:Nat→Value) (h:List Blk) (p:Val (tyL x.cs)) (xs:List (Val x.it.et)) (Kf:Val (tyL x.vs)→Option ρ) (r:ρ) (ν1:Nat→Value) (h1:List Blk) (a:Act) (t1:List AV) (W1:World) (O X:Nat→Prop) (pre:List (Val x.it.et)) (W:World):Prop where
 os:W.os=W1.os
 tape:W.tape=W1.tape
 output:W.output=W1.output
 size:W1.heap.size≤W.heap.size
 nd:∀(k:Nat) (o:Obj),W1.heap[k]?=some o→NR o=false→W.heap[k]?=some o
 ex:∃(ν':Nat→Value) (v':Val (tyL x.vs)) (suf:List (Val x.it.et)),xs=pre++suf∧yV (x.bF p) suf v' Kf=some r∧(∀k,O k↔CW ν' (ü x.head x.cs x.vs p v').h k) ∧
  @HR (g.re (fun k=>X k∧¬O k∧k<W.heap.size) [] none 0) ν' (ü x.head x.cs x.vs p v').h W ∧
  (∀i,@VR (g.re (fun k=>X k∧¬O k∧k<W.heap.size) [] none 0) ν' (ü x.head x.cs x.vs p v').h W (lk t1 i) (a.tmps.getD i undef)) ∧
  (∀b,b<W1.heap.size→¬CW ν h b→¬CW ν' (ü x.head x.cs x.vs p v').h b) ∧
  (∀id,id<x.pin→(lkB h1 id).next ν1 ν' id (lkB (ü x.head x.cs x.vs p v').h id))∧Dd x.pin h1 (ü x.head x.cs x.vs p v').h
section
variable {g:Ghost} {x:FN ρ} {ν:Nat→Value} {h:List Blk} {p:Val (tyL x.cs)} {xs:List (Val x.it.et)} {Kf:Val (tyL x.vs)→Option ρ} {r:ρ} {ν1:Nat→Value} {h1:List Blk} {a:Act} {t1:List AV} {W1:World}
def RJ.st (hgB:g.B≤W1.heap.size) {O X X':Nat→Prop} {pre:List (Val x.it.et)} {W W':World} (H:RJ g x ν h p xs Kf r ν1 h1 a t1 W1 O X pre W) (S:StepJ W1.heap.size O X W X' W'):RJ g x ν h p xs Kf r ν1 h1 a t1 W1 O X' pre W':=by
 obtain⟨e1,e2,e3,e4,e5,ν',v',suf,q1,q2,q3,q4,q5,q6,q7,q8⟩:=H;have av:∀b,@Av (g.re (fun k=>X k∧¬O k∧k<W.heap.size) [] none 0) ν' (ü x.head x.cs x.vs p v').h b↔CW ν' (ü x.head x.cs x.vs p v').h b∨(X b∧¬O b∧b<W.heap.size):=fun b=>Iff.rfl
 have KG:mc (g.re (fun k=>X k∧¬O k∧k<W.heap.size) [] none 0) ν' (ü x.head x.cs x.vs p v').h W (fun k=>X' k∧¬O k∧k<W'.heap.size) W':=by
  refine⟨S.os,S.tape,S.output,S.size,fun b hb hn hx=>?_,fun b o hb ho hx=>?_,fun b o hb ho hlt=>S.nd b o hb ho (dc hlt hgB)⟩
  ·rw[av] at hn;exact S.av b hb (fun hX=>hn (.inr ⟨hX,hx.2.1,hb⟩)) hx.1
  ·refine S.dat b o hb ho fun hX=>?_;rcases Classical.em (O b) with h'|h'
   ·exact h'
   ·exact(q3 b).2 (hx ((av b).2 (.inr ⟨hX,h',ď hb⟩)))
 refine⟨S.os.trans e1,S.tape.trans e2,S.output.trans e3,cY e4 S.size,fun k o hk ho=>S.nd k o (e5 k o hk ho) ho (ď hk),ν',v',suf,q1,q2,q3,?_,fun i=>?_,q6,q7,q8⟩
 ·exact HR.step (g:=g.re (fun k=>X k∧¬O k∧k<W.heap.size) [] none 0) (D:=[]) (Q:=none) (M:=0) KG (fun b hb=>hb.2.2) (fun b hl hb=>hb.2.1 ((q3 b).2 hl)) q4
 ·exact VR.step (g:=g.re (fun k=>X k∧¬O k∧k<W.heap.size) [] none 0) (D:=[]) (Q:=none) (M:=0) KG (q5 i)
def atP {x:FN ρ} (p:Val (tyL x.cs)) (k:Val (tyL x.vs)→Option ρ) (p':Val (tyL x.cs)) (v:Val (tyL x.vs)):Option ρ:=open Classical in if p'=p then k v else none
def ahV {x:FN ρ} (p:Val (tyL x.cs)) (k:Val (tyL x.vs)→Option ρ):atP p k p=k:=by
 funext v; unfold atP; rw[if_pos rfl]
def ahU {x:FN ρ} {p p':Val (tyL x.cs)} {k:Val (tyL x.vs)→Option ρ} {v:Val (tyL x.vs)} {r:ρ} (h:atP p k p' v=some r):p'=p∧k v=some r:=by
 unfold atP at h
 split at h
 ·exact⟨‹_›,h⟩
 ·cases h
def aeQ (ν:Nat→Value) (h:List Blk):∃us:Array Value,∀b,Ļ (.agg us) b↔CW ν h b:=by
 have key:∀n,∃l:List Value,∀b,(∃u∈l,kg u=some b)↔∃id,id<n∧(lkB h id).live=true∧Ļ (ν id) b:=by
  intro n
  induction n with
  |zero=>exact⟨[],fun b=>⟨fun⟨u,hu,_⟩=>(by cases hu),fun⟨_,hi,_⟩=>(by omega)⟩⟩
  |succ n ih =>
   obtain⟨l,hl⟩:=ih
   obtain⟨m,hm⟩:∃m:List Value,∀b,(∃u∈m,kg u=some b)↔((lkB h n).live=true∧Ļ (ν n) b):=by
    cases hlv:(lkB h n).live with
    |false=>exact⟨[],fun b=>⟨fun⟨u,hu,_⟩=>(by cases hu),fun⟨q,_⟩=>(by cases q)⟩⟩
    |true =>
     cases hv:ν n with
     |agg vs=>exact⟨vs.toList,fun b=>⟨fun q=>⟨rfl,q⟩,fun q=>q.2⟩⟩
     |pointer a=>exact⟨[.pointer a],fun b=>⟨fun⟨u,hu,q⟩=>⟨rfl,by rw[cP.1 hu] at q; exact q⟩,fun q=>⟨_,.head _,q.2⟩⟩⟩
     |slice a k c=>exact⟨[.slice a k c],fun b=>⟨fun⟨u,hu,q⟩=>⟨rfl,by rw[cP.1 hu] at q; exact q⟩,fun q=>⟨_,.head _,q.2⟩⟩⟩
     |map r=>exact⟨[.map r],fun b=>⟨fun⟨u,hu,q⟩=>⟨rfl,by rw[cP.1 hu] at q; exact q⟩,fun q=>⟨_,.head _,q.2⟩⟩⟩
     |_=>exact⟨[],fun b=>⟨fun⟨u,hu,_⟩=>(by cases hu),fun q=>q.2.elim⟩⟩
   refine⟨l++m,fun b=>⟨fun⟨u,hu,q⟩=>?_,fun⟨i,hi,q1,q2⟩=>?_⟩⟩
   ·rcases cM.1 hu with hu|hu
    ·obtain⟨i,hi,q1⟩:=(hl b).1 ⟨u,hu,q⟩;exact⟨i,by omega,q1⟩
    ·exact⟨n,by omega,(hm b).1 ⟨u,hu,q⟩⟩
   ·rcases gM.1 hi with h1|rfl
    ·obtain⟨u,hu,q⟩:=(hl b).2 ⟨i,h1,q1,q2⟩;exact⟨u,dD _ hu,q⟩
    ·obtain⟨u,hu,q⟩:=(hm b).2 ⟨q1,q2⟩;exact⟨u,dC _ hu,q⟩
 obtain⟨l,hl⟩:=key h.length;refine⟨l.toArray,fun b=>⟨fun q=>?_,fun⟨id,q1,q2⟩=>?_⟩⟩
 ·obtain⟨id,_,q1,q2⟩:=(hl b).1 (by simpa using q);exact⟨id,q1,q2⟩
 ·have hid:id<h.length:=by
   rcases dg id h.length with h'|h'
   ·exact h'
   ·letI:Ghost:=Gh fun _=>False
    rw[WJ _ _ h'] at q1; cases q1
  simpa using(hl b).2 ⟨id,hid,q1,q2⟩
def nA {w:World} {l:Nat} {o':Obj} {r0:Loop} (hl:w.heap[l]?=some (.loop r0)) (b:Nat) (o:Obj) (hb:w.heap[b]?=some o) (hd:NR o=true∨b≠l):(w.putObj l o').heap[b]?=some o:=by
 have:b≠l:=fun e=>by
  subst e;rcases hd with hd|hd
  ·rw[hl] at hb; cases hb; cases hd
  ·exact hd rfl
 rw[World.putObj_heap_other this]; exact hb
def RJ.round {E:Env ρ} {N:Nat} {call:List Nat→Bool→Nat→List AV→List Blk→(AV→List Blk→Option ρ)→Option ρ} (hEnv:∀[Ghost],kh E→md E N call) (hDraw:∀[Ghost],md E N call→vf E N call) (hpath:x.path.length+2=N) (hy:@kh g ρ E)
 {gop:Operand} {ps:Array Tmp} {A Bd:Code} {p0:Tmp} (hps:ps.toList=[p0]) (hL:∀[Ghost],kh E→∀z∈Ý x.bid A++Ý x.bid Bd,sL E x.path x.fid z.1 z.2)
 (hag:x.it.et.isAgg=false) (htm:∀p v v',(ü x.head x.cs x.vs p v').t=(ü x.head x.cs x.vs p v).t) (hst:∀p v,(ü x.head x.cs x.vs p v).t.all (st3 x.pin)=true)
 (hlen:∀v,x.pin≤(ü x.head x.cs x.vs p v).h.length)
 (law:∀p v y (kn:Val (tyL x.cs)→Val (tyL x.vs)→Option ρ),AI E call x.fid x.path x.pin x.bid (.rf gop ps A Bd) (ü x.head x.cs x.vs p v) (enc x.it.et y) (fun S=>match AR x.head x.pin x.cs x.vs S with
  |some (p,v)=>kn p v
  |none=>none)=x.bF p v y (kn p))
 {fnv:FuncId} {dn:Nat} {l:Nat} (hl1:W1.heap[l]?=some (.loop {state:=.ready,pending:=none,fn:=fnv,tmps:=a.tmps,params:=ps,assign:=A,body:=Bd,defers:=dn})) (hgl:g.B≤l) (hgB:g.B≤W1.heap.size) (ht1:∃v,t1=(ü x.head x.cs x.vs p v).t) (htl:t1.length≤a.tmps.size)
 {O X:Nat→Prop} {pre:List (Val x.it.et)} {y:Val x.it.et} {u:Value} {W:World} (H:RJ g x ν h p xs Kf r ν1 h1 a t1 W1 O X pre W) (hOX:∀b,O b→X b) (hXs:∀b,X b→b<W.heap.size) (hpre:pre++[y] <+: xs) (hcr:CR W X x.it.et y [u]) :
 YieldAt Fence.wide 0 E.P l #[u] W fun e W'=>e=.returned (.bool true)∧W'.os=W.os∧W'.tape=W.tape∧W'.output=W.output∧W.heap.size≤W'.heap.size ∧
  ∃us,(∀b,b<W.heap.size→¬O b→W'.heap[b]?=W.heap[b]?∧¬Ļ (.agg us) b)∧(∀b,Ļ (.agg us) b→∃o,W'.heap[b]?=some o∧NR o=true)∧RJ g x ν h p xs Kf r ν1 h1 a t1 W1 (Ļ (.agg us)) (fun b=>(X b∧¬O b)∨Ļ (.agg us) b) (pre++[y]) W':=by
 obtain⟨e1,e2,e3,e4,e5,ν',v',suf,q1,q2,q3,q4,q5,q6,q7,q8⟩:=H
 -- what is yielded is what comes next
 obtain⟨suf',rfl⟩:∃suf',suf=y::suf':=by
  obtain⟨s,hs⟩:=hpre;rw[q1,cQ] at hs;exact⟨s,(List.append_cancel_left hs).symm⟩
 have hl:W.heap[l]?=_:=e5 l _ hl1 rfl;obtain⟨GX,hGX⟩:∃GX:Nat→Prop,GX=fun k=>X k∧¬O k∧k<W.heap.size:=⟨_,rfl⟩;rw[←hGX] at q4 q5
 letI gr:Ghost:=g.re GX [] (some l) W.heap.size
 have hyr:kh E:=hy;have hE:=hEnv hyr;have hD:=hDraw hE;obtain⟨S,hS⟩:∃S,S=ü x.head x.cs x.vs p v':=⟨_,rfl⟩
 have hSt:S.t=t1:=by obtain⟨v0,h0⟩:=ht1; rw[hS,h0]; exact htm p v0 v'
 have hlen':x.pin≤S.h.length:=by rw[hS]; exact hlen v'
 rw[←hS] at q3 q4 q5 q6 q7 q8;have H0:HR ν' S.h W:=HR.re (g:=g.re GX [] none 0) q4
 have V0:∀i,VR ν' S.h W (lk S.t i) (a.tmps.getD i undef):=fun i=>by rw[hSt]; exact q5 i
 have avX:∀b,Av ν' S.h b→X b:=fun b hb=>by
  rcases hb with hb|hb
  ·exact hOX b ((q3 b).2 hb)
  ·have hb:GX b:=hb;rw[hGX] at hb; exact hb.1
 have hu:VR ν' S.h W (enc x.it.et y) u:=ajw hag (CR.mono avX hcr);have fr0:∀(W2:World) (r2:Loop),W2.heap[l]?=some (.loop r2)→W.heap.size≤W2.heap.size→Fr W2 []:=fun W2 r2 h2 h3=>⟨⟨[],rfl,gu,fun _ q=>(by cases q)⟩,fun l' e=>by cases e; exact⟨r2,h2⟩,cY hgB e4,h3⟩
 have sim0:Sim ν' {t:=upd S.t p0 (enc x.it.et y),h:=S.h} {tmps:=a.tmps.setIfInBounds p0 u,defers:=[]} W:=by
  have s0:Sim ν' S {tmps:=a.tmps,defers:=[]} W:=⟨fr0 W _ hl (cG _),by rw[hSt]; exact htl,V0,H0⟩;exact s0.put (Ev.refl _ _ _ _) H0 (some p0) hu
 -- the law
 have hlaw:=law p v' y (atP p fun v=>yV (x.bF p) suf' v Kf);rw[ahV,show x.bF p v' y (fun v=>yV (x.bF p) suf' v Kf)=some r from q2,←hS] at hlaw;unfold AI at hlaw;simp only[hps] at hlaw;have hLr:∀z∈Ý x.bid A++Ý x.bid Bd,sL E x.path x.fid z.1 z.2:=hL hyr;have hgo:=Hd hE hpath A x.bid _ _ ν' _ W (fun _=>hD) (fun z hz=>hLr z (List.mem_append_left _ hz)) hlaw sim0 hlen'
 have htm0:((ps.zip #[u]).foldl (fun t (p,v)=>t.setIfInBounds p v) a.tmps)=a.tmps.setIfInBounds p0 u:=by
  have:ps=#[p0]:=by rw[←dJ,hps]
  rw[this]; simp
 refine ⟨_, _, _, _, run_yield hl (by have : ps = #[p0] := by (rw [← dJ, hps])
                                      rw[this]; rfl),?_⟩
 rw[htm0];refine roundIn_of_wpIn (F:=Fence.wide) trivial (wpIn_mono (show A.wpIn (Fence.wide.inRound l) 0 E.P _ _ W from hgo) fun e aA WA hA=>?_);obtain⟨νA,SA,sA,evA,lnA,ddA,kA⟩:=hA
 cases e with
 |normal =>
  simp only at kA;have hlA:WA.heap[l]?=some (.loop _):=H0.nd evA l _ hl rfl;refine⟨_,run_beginRound hlA rfl,?_⟩;have KGb:mc gr νA SA.h WA gr.G (WA.putObj l (.loop {state:=.busy,pending:=none,fn:=fnv,tmps:=a.tmps,params:=ps,assign:=A,body:=Bd,defers:=dn})):=mc.nds rfl rfl rfl (by simp) fun b o hb hd=>nA hlA b o hb (hd.imp id fun hlt=>by have:b<g.B:=hlt; omega);obtain⟨Wb,hWb⟩:∃Wb,Wb=WA.putObj l (.loop {state:=.busy,pending:=none,fn:=fnv,tmps:=a.tmps,params:=ps,assign:=A,body:=Bd,defers:=dn}):=⟨_,rfl⟩;rw[←hWb] at KGb ⊢
  have hlb:Wb.heap[l]?=some (.loop {state:=.busy,pending:=none,fn:=fnv,tmps:=a.tmps,params:=ps,assign:=A,body:=Bd,defers:=dn}):=by rw[hWb]; exact World.putObj_heap_same (ď hlA)
  have sB:Sim νA SA aA Wb:=by
   refine⟨?_,sA.len,fun i=>VR.step (g:=gr) (D:=[]) (Q:=some l) (M:=W.heap.size) KGb (sA.tmps i),HR.step (g:=gr) (D:=[]) (Q:=some l) (M:=W.heap.size) KGb (fun b hb=>dc (sA.heap.ghlt b hb) KGb.size) (fun b ⟨i,hi,hb⟩=>sA.heap.ghne i b hi hb) sA.heap⟩;obtain⟨⟨ms,m1,m2,m3⟩,_,m4,m5⟩:=sA.defers;refine⟨⟨ms,m1,m2,fun k hk=>⟨?_,(m3 k hk).2⟩⟩,fun l' e=>by cases e; exact⟨_,hlb⟩,m4,cY m5 KGb.size⟩;rw[hWb];exact nA hlA k _ (m3 k hk).1 (.inr fun e=>by have hk0:=(m3 k hk).1; rw[e,hlA] at hk0; cases hk0)
  have hgo2:=Hd hE hpath Bd x.bid _ _ νA _ Wb (fun _=>hD) (fun z hz=>hLr z (dC _ hz)) kA sB lnA;refine wpIn_mono (show Bd.wpIn (Fence.wide.inRound l) 0 E.P _ _ Wb from hgo2) fun e aC WC hC=>?_;obtain⟨νC,SC,sC,evC,lnC,ddC,kC⟩:=hC
  cases e with
  |normal =>
   simp only at kC
   split at kC<;>try (cases kC; done)
   rename_i p' v'' hm;obtain⟨hp',kC⟩:=ahU kC;subst hp';obtain⟨νD,sD,evD,lnD,ddD⟩:=Rk _ _ _ _ _ _ _ νC aC WC hm sC;have hlC:WC.heap[l]?=some (.loop _):=sB.heap.nd evC l _ hlb rfl;have hrun:=run_endRound (P:=E.P) none hlC;obtain⟨W4,hW4⟩:∃W4,W4=WC.putObj l (.loop {state:=.ready,pending:=none,fn:=fnv,tmps:=a.tmps,params:=ps,assign:=A,body:=Bd,defers:=dn}):=⟨_,rfl⟩;refine⟨_,W4,by rw[hW4]; exact hrun,rfl,?_⟩;have hWs:W.heap.size≤WC.heap.size:=cY evA.size (cY KGb.size evC.size)
   have s4:W4.heap.size=WC.heap.size:=by rw[hW4]; simp
   have h4l:W4.heap[l]?=some (.loop {state:=.ready,pending:=none,fn:=fnv,tmps:=a.tmps,params:=ps,assign:=A,body:=Bd,defers:=dn}):=by rw[hW4]; exact World.putObj_heap_same (ď hlC)
   have h4o:∀b,b≠l→W4.heap[b]?=WC.heap[b]?:=fun b hb=>by rw[hW4]; exact World.putObj_heap_other hb
   have hbo:∀b,b≠l→Wb.heap[b]?=WA.heap[b]?:=fun b hb=>by rw[hWb]; exact World.putObj_heap_other hb
   have frame:∀b,b<W.heap.size→¬CW ν' S.h b→W4.heap[b]?=W.heap[b]?∧¬CW νD (ü x.head x.cs x.vs p' v'').h b:=fun b hb hn=>by
    obtain⟨k1,k2⟩:=evA.keep b hb hn;obtain⟨k3,k4⟩:=evC.keep b (dc hb (cY evA.size KGb.size)) k2;obtain⟨k5,k6⟩:=evD.keep b (dc hb hWs) k4;refine⟨?_,k6⟩
    by_cases hbl:b=l
    ·rw[hbl,h4l,hl]
    ·rw[h4o b hbl,k3,hbo b hbl,k1]
   obtain⟨us,hus⟩:=aeQ νD (ü x.head x.cs x.vs p' v'').h
   have o4:W4.os=W.os∧W4.tape=W.tape∧W4.output=W.output:=by
    rw[hW4];exact⟨evC.os.trans (KGb.os.trans evA.os),evC.tape.trans (KGb.tape.trans evA.tape),evC.output.trans (KGb.output.trans evA.output)⟩
   have KG4:mc gr νD (ü x.head x.cs x.vs p' v'').h WC (fun k=>((X k∧¬O k)∨Ļ (.agg us) k)∧¬Ļ (.agg us) k∧k<W4.heap.size) W4:=by
    refine⟨by rw[hW4]; rfl,by rw[hW4]; rfl,by rw[hW4]; rfl,gK s4.symm,fun b hb hn hx=>?_,fun b o hb ho _=>?_,fun b o hb ho hlt=>?_⟩
    ·obtain⟨hx1,hx2,_⟩:=hx;obtain⟨hx3,hx4⟩:=hx1.resolve_right hx2;refine hn (.inr ?_);show GX b;rw[hGX]; exact⟨hx3,hx4,hXs b hx3⟩
    ·rw[hW4]; exact nA hlC b o hb (.inl ho)
    ·rw[hW4]; exact nA hlC b o hb (.inr fun e=>by have:b<g.B:=hlt; omega)
   refine⟨o4.1,o4.2.1,o4.2.2,by rw[s4]; exact hWs,us,fun b hb hn=>?_,fun b hb=>?_,?_⟩
   ·obtain⟨k1,k2⟩:=frame b hb fun hL=>hn ((q3 b).2 hL);exact⟨k1,fun q=>k2 ((hus b).1 q)⟩
   ·obtain⟨o,k1,k2⟩:=sD.heap.dat ((hus b).1 hb);exact⟨o,by rw[hW4]; exact nA hlC b o k1 (.inl k2),k2⟩
   ·refine⟨o4.1.trans e1,o4.2.1.trans e2,o4.2.2.trans e3,cY e4 (by rw[s4]; exact hWs),fun k o hk ho=>?_,νD,v'',suf',by rw[q1,cQ]; rfl,kC,hus,?_,fun i=>?_,fun b hb hn=>?_,fun id hid=>?_,?_⟩
    ·by_cases hkl:k=l
     ·rw[hkl] at hk ⊢;rw[h4l,←hl1,hk]
     ·rw[h4o k hkl];have k1:=H0.nd evA k o (e5 k o hk ho) ho;have k2:Wb.heap[k]?=some o:=(hbo k hkl).trans k1;exact sB.heap.nd evC k o k2 ho
    ·exact HR.step (g:=gr) (D:=[]) (Q:=none) (M:=0) KG4 (fun b hb=>hb.2.2) (fun b hl hb=>hb.2.1 ((hus b).2 hl)) sD.heap
    ·have hs3:st3 x.pin (lk t1 i)=true:=by
      rw[←hSt,hS];exact aii rfl _ (hst p' v') i
     have v1:VR ν' S.h W (lk t1 i) (a.tmps.getD i undef):=by rw[←hSt]; exact V0 i
     have v2:=VR.stab evA hs3 v1;have v3:VR νA SA.h Wb (lk t1 i) (a.tmps.getD i undef):=VR.step (g:=gr) (D:=[]) (Q:=some l) (M:=W.heap.size) KGb v2;have v4:=VR.stab evD hs3 (VR.stab evC hs3 v3);exact VR.step (g:=gr) (D:=[]) (Q:=none) (M:=0) KG4 v4
    ·exact(frame b (dc hb e4) (q6 b hb hn)).2
    ·exact Blk.next_trans (Blk.next_trans (Blk.next_trans (q7 id hid) (evA.blk id hid)) (evC.blk id hid)) (evD.blk id hid)
    ·exact((q8.trans ddA (cG _)).trans ddC (cG _)).trans ddD (cG _)
  |exit id=>cases kC
  |goto l=>cases kC
  |ret=>cases kC
  |panic ch=>cases kC
  |outgrown=>cases kC
 |exit id=>cases kA
 |goto l=>cases kA
 |ret=>cases kA
 |panic ch=>cases kA
 |outgrown=>cases kA
def WP (T:Tpl) (cs vs:List Ty) (p:Val (tyL cs)) (v:Val (tyL vs)):(ü T cs vs p v).h.length=T.heap.length:=by
 letI:Ghost:=Gh fun _=>False
 unfold ü;exact yT _ _
def adP {E:Env ρ} {N:Nat} {call:List Nat→Bool→Nat→List AV→List Blk→(AV→List Blk→Option ρ)→Option ρ} (hEnv:∀[Ghost],kh E→md E N call) (hDraw:∀[Ghost],md E N call→vf E N call) (hpath:x.path.length+2=N) (hy:@kh g ρ E)
 {gop:Operand} {ps:Array Tmp} {A Bd:Code} (hL:∀[Ghost],kh E→∀z∈Ý x.bid A++Ý x.bid Bd,sL E x.path x.fid z.1 z.2)
 (hit:kj E.P x.it) (htm:∀p v v',(ü x.head x.cs x.vs p v').t=(ü x.head x.cs x.vs p v).t) (hst:∀p v,(ü x.head x.cs x.vs p v).t.all (st3 x.pin)=true)
 (law:∀p v y (kn:Val (tyL x.cs)→Val (tyL x.vs)→Option ρ),AI E call x.fid x.path x.pin x.bid (.rf gop ps A Bd) (ü x.head x.cs x.vs p v) (enc x.it.et y) (fun S=>match AR x.head x.pin x.cs x.vs S with
  |some (p,v)=>kn p v
  |none=>none)=x.bF p v y (kn p)) (hps:∃p0,ps.toList=[p0])
 (hplain : ∀ (f : Nat) (fn : Func), E.P.funcs[f]? = some fn → (fn.name == "runtime.NumGoroutine") = false)
 {m:Nat} {S:St} {K:Exit→St→Option ρ} {r:ρ} {ν:Nat→Value} {a:Act} {w:World} (e:rngK x m (ev S.t gop) S K=some r) (H:@Sim g ν S a w) (hm:m≤S.h.length) :
 (Code.rangeFunc gop ps A Bd).wpIn (@fen g) 0 E.P (@ZS g ρ m ν S.h w K r) a w:=by
 obtain⟨p0,hps⟩:=hps;unfold rngK at e
 split at e<;>try (cases e; done)
 rename_i hmp;have hmp:m≤x.pin:=eZ hmp
 split at e<;>try (cases e; done)
 rename_i c id hg
 split at e<;>try (cases e; done)
 rename_i hcm;obtain rfl:=cR hcm
 split at e<;>try (cases e; done)
 rename_i cs hl
 split at e<;>try (cases e; done)
 rename_i hchk;simp only[cH] at hchk;obtain⟨hown,hnr⟩:=hchk
 split at e<;>try (cases e; done)
 rename_i d hd
 split at e<;>try (cases e; done)
 rename_i p v hmt;simp only[Ä] at e
 split at e<;>try (cases e; done)
 rename_i xs hxs
 -- the iterator
 have hH:=@Sim.heap g _ _ _ _ H;have hbid:=@HR.blk g _ _ _ hH id;rw[hl] at hbid;obtain⟨b0,cb,te,hν,hb0,hcells⟩:=hbid;have hgv:@VR g ν S.h w (ev S.t gop) (a.eval gop):=@Ņ g _ _ _ _ H gop;rw[hg] at hgv;obtain⟨fs,cps,hge,hfs,hcps⟩:=hgv
 have hfs0:fs=#[]:=by rw[←dJ]; exact hfs.nil_left
 obtain⟨uc,hu1,hu2⟩:=hcps.one
 have huc:uc=.pointer (some ⟨b0,0,none⟩):=by
  obtain⟨_,b',_,q1,q2⟩:=hu2;rw[hν] at q1; cases q1; exact q2
 have hcps0:cps=#[.pointer (some ⟨b0,0,none⟩)]:=by rw[←dJ,hu1,huc]
 rw[hfs0,hcps0] at hge
 -- the box is let go
 obtain⟨h0,hh0⟩:∃h0,h0=ð S.h id .dead:=⟨_,rfl⟩;have hid:id<S.h.length:=Ű hl (by simp)
 letI g1:Ghost:=g.re (ain g b0) g.D g.Q g.M
 have H1:HR ν h0 w:=by rw[hh0]; exact ajA hl hν hnr hH
 have sim1:Sim ν {t:=S.t.map (clr id),h:=h0} a w:=by
  refine⟨@Sim.defers g _ _ _ _ H,by rw[List.length_map]; exact @Sim.len g _ _ _ _ H,fun i=>?_,H1⟩;show VR ν h0 w (lk (S.t.map (clr id)) i) _;rw[aih rfl,hh0];unfold clr
  split
  ·exact ajz hl hν ‹_› (@Sim.tmps g _ _ _ _ H i)
  ·trivial
 rw[←hh0] at hmt;obtain⟨ν1,sim2,ev1,hp1,dd1⟩:=Rk _ _ _ _ _ _ _ ν a w hmt sim1;obtain⟨S1,hS1⟩:∃S1,S1=ü x.head x.cs x.vs p v:=⟨_,rfl⟩;rw[←hS1] at sim2 ev1 hp1 dd1
 have hlen:∀v,x.pin≤(ü x.head x.cs x.vs p v).h.length:=fun v'=>by rw[WP,←WP x.head x.cs x.vs p v,←hS1]; exact hp1
 have L01:∀b,CW ν1 S1.h b→CW ν h0 b:=fun b hb=>Classical.byContradiction fun hn=>(ev1.keep b (sim2.heap.lt hb) hn).2 hb
 have L0:∀b,CW ν h0 b→CW ν S.h b∧b≠b0:=fun b ⟨j,hj,ho⟩=>by
  rw[hh0,wo] at hj
  split at hj
  ·cases hj
  ·rename_i hne;refine⟨⟨j,hj,ho⟩,fun eb=>hne ⟨?_,hid⟩⟩;exact @HR.inj g _ _ _ hH j id b hj (by rw[hl]; rfl) ho (by rw[hν,eb]; rfl)
 have hb0L:CW ν S.h b0:=⟨id,by rw[hl]; rfl,by rw[hν]; rfl⟩
 -- what is known of the frame
 have hfr:=@Sim.defers g _ _ _ _ H;have hgBw:g.B≤w.heap.size:=cY hfr.2.2.1 hfr.2.2.2;refine wpIn_rangeFunc ?_;intro fn hfn
 -- the record
 obtain⟨l,marks,dn,W1,henter,hl1,hlw,hW1s,hW1o,hW1d,hmarks⟩:∃(l:Nat) (marks:List Nat) (dn:Nat) (W1:World),(Instr.enterLoop fn a.tmps ps A Bd (@fen g).round).run E.P w=.ok (l,marks.map mk1) W1 ∧
  W1.heap[l]?=some (.loop {state:=.ready,pending:=none,fn:=fn,tmps:=a.tmps,params:=ps,assign:=A,body:=Bd,defers:=dn})∧w.heap.size≤l∧w.heap.size≤W1.heap.size∧(W1.os=w.os∧W1.tape=w.tape∧W1.output=w.output)∧(∀b,b<w.heap.size→W1.heap[b]?=w.heap[b]?) ∧
  (marks.Nodup∧∀k∈marks,W1.heap[k]?=some (.deferred (some []))∧w.heap.size≤k):=by
  have hro:(@fen g).round=g.Q:=rfl;rw[hro]
  cases hQ:g.Q with
  |none =>
   refine⟨w.heap.size+1,[w.heap.size],w.heap.size,_,run_enterLoop_outer _ _ _ _ _,?_,by omega,by simp; omega,⟨rfl,rfl,rfl⟩,fun b hb=>?_,by simp,fun k hk=>?_⟩
   ·have:=World.alloc_heap_new (w.alloc (.deferred (some []))) (.loop {state:=.ready,pending:=none,fn:=fn,tmps:=a.tmps,params:=ps,assign:=A,body:=Bd,defers:=w.heap.size})
    rwa [World.size_alloc] at this
   ·rw[RowKit.Below.heap_alloc _ _ _ (by simp; omega),RowKit.Below.heap_alloc _ _ _ hb]
   ·rw[cP.1 hk];exact⟨(RowKit.Below.heap_alloc _ _ _ (by simp)).trans (World.alloc_heap_new w _),cG _⟩
  |some l0 =>
   obtain⟨r0,hr0⟩:=hfr.2.1 l0 hQ;refine⟨w.heap.size,[],r0.defers,_,run_enterLoop_inner hr0 _ _ _ _ _,World.alloc_heap_new _ _,cG _,by simp,⟨rfl,rfl,rfl⟩,fun b hb=>RowKit.Below.heap_alloc _ _ _ hb,gu,fun k hk=>by cases hk⟩
 obtain⟨hmn,hmk⟩:=hmarks;have hlW1:l<W1.heap.size:=ď hl1;have hold:∀(b:Nat) (o:Obj),w.heap[b]?=some o→W1.heap[b]?=some o:=fun b o hb=>(hW1d b (ď hb)).trans hb
 -- what the loop's body gets
 obtain⟨us0,hus0⟩:=aeQ ν1 S1.h;obtain⟨Kf,hKf⟩:∃Kf:Val (tyL x.vs)→Option ρ,Kf=fun v=>K .normal (bif Nat.blt id x.pin then {t:=(ü x.head x.cs x.vs p v).t,h:=ð (ü x.head x.cs x.vs p v).h id (.cells (flat x.it.ct d))} else ü x.head x.cs x.vs p v):=⟨_,rfl⟩;rw[←hKf] at e;have htl:S1.t.length≤a.tmps.size:=sim2.len
 letI gp:Ghost:=⟨g.G,[],none,W1.heap.size,l,W1.heap.size,x.it.et,RJ g x ν S.h p xs Kf r ν1 S1.h a S1.t W1,fun O X X' pre W W' hJ hS=>RJ.st (cY hgBw hW1s) hJ hS⟩
 have hgl:g.B≤l:=cY hgBw hlw;have hgB1:g.B≤W1.heap.size:=cY hgBw hW1s;have hyp:@YldP gp E.P ⟨x.it.et,xs⟩:=⟨rfl,fun O X pre y u W hJ hOX hXs hpre hcr hB=>RJ.round hEnv hDraw hpath hy hps hL hit.agg htm hst hlen law hl1 hgl hgB1 ⟨v,by rw[hS1]⟩ htl hJ hOX hXs hpre hcr⟩
 -- the iterator's state
 obtain⟨νp,hνp⟩:∃νp:Nat→Value,νp=fun n=>if n=0 then .agg us0 else if n=1 then .pointer (some ⟨b0,0,none⟩) else undef:=⟨_,rfl⟩
 have n0:νp 0=.agg us0:=by rw[hνp]; rfl
 have n1:νp 1=.pointer (some ⟨b0,0,none⟩):=by rw[hνp]; rfl
 have Lp:∀k,CW νp (υ x.it d) k→Ļ (.agg us0) k∨k=b0:=by
  rintro k ⟨i,hi,ho⟩
  match i,hi,ho with
  |0,_,ho=>rw[n0] at ho; exact .inl ho
  |1,_,ho=>rw[n1] at ho; cases ho; exact .inr rfl
  |i+2,hi,_=>cases hi
 have OL:∀k,Ļ (.agg us0) k→CW ν S.h k∧k≠b0:=fun k hk=>L0 k (L01 k ((hus0 k).1 hk))
 have Avp:∀k,@Av gp νp (υ x.it d) k→@Av g ν S.h k:=fun k hk=>by
  rcases hk with hk|hk
  ·rcases Lp k hk with hk|rfl
   ·exact .inl (OL k hk).1
   ·exact .inl hb0L
  ·exact .inr hk
 have hcr0:CR w (@Av g ν S.h) x.it.ct d cb.toList:=ğ hd (ý.mono (fun _ _ hx=>@VR1.data g _ _ _ _ _ hx.1) hcells);have hcr1:CR W1 (@Av gp νp (υ x.it d)) x.it.ct d cb.toList:=CR.kx ⟨hW1s,fun b _ hn hx=>hn (Avp b hx),fun b o hb _ _=>hold b o hb⟩ hcr0
 have hJ0:RJ g x ν S.h p xs Kf r ν1 S1.h a S1.t W1 (Ļ (νp 0)) (@Av gp νp (υ x.it d)) [] W1:=by
  have KG:mc g1 ν1 S1.h w (fun k=>@Av gp νp (υ x.it d) k∧¬Ļ (νp 0) k∧k<W1.heap.size) W1:=by
   refine⟨hW1o.1,hW1o.2.1,hW1o.2.2,hW1s,fun b hb hn hx=>?_,fun b o hb _ _=>hold b o hb,fun b o hb _ _=>hold b o hb⟩;obtain⟨hx1,hx2,_⟩:=hx;rcases hx1 with hx1|hx1
   ·rcases Lp b hx1 with q|rfl
    ·rw[n0] at hx2; exact hx2 q
    ·exact hn (.inr (.inr rfl))
   ·exact hn (.inr (.inl hx1))
  refine⟨rfl,rfl,rfl,cG _,fun _ _ q _=>q,ν1,v,xs,rfl,e,fun k=>by rw[n0,←hS1]; exact hus0 k,?_,fun i=>?_,fun b _ hn hL2=>?_,fun i _=>?_,?_⟩
  ·rw[←hS1];exact HR.step (g:=g1) (D:=[]) (Q:=none) (M:=0) KG (fun b hb=>hb.2.2) (fun b hl2 hb=>hb.2.1 (by rw[n0]; exact(hus0 b).2 hl2)) (@Sim.heap g1 _ _ _ _ sim2)
  ·rw[←hS1];exact VR.step (g:=g1) (D:=[]) (Q:=none) (M:=0) KG (@Sim.tmps g1 _ _ _ _ sim2 i)
  ·rw[←hS1] at hL2;exact hn (L0 b (L01 b hL2)).1
  ·rw[←hS1]; exact Blk.next_refl _ _ _
  ·rw[←hS1]; exact Dd.refl _ _
 have Hp:@HR gp νp (υ x.it d) W1:=by
  refine @HR.mk gp _ _ _ (fun i=>?_) (fun i j b hi hj hbi hbj=>?_) (fun b hb=>dc (@HR.ghlt g _ _ _ hH b hb) hW1s) (fun i b hi hbi hg=>?_)
  ·match i with
   |0 =>
    refine⟨us0,n0,fun b hb=>?_,rfl,hJ0⟩;rw[n0] at hb;obtain⟨o,q1,q2⟩:=@HR.dat g _ _ _ hH b (OL b hb).1;exact⟨o,hold b o q1,q2⟩
   |1=>exact⟨b0,cb,te,n1,hold _ _ hb0,@lR gp νp (υ x.it d) W1 _ _ _ hcr1⟩
   |i+2=>exact trivial
  ·match i,j,hi,hj,hbi,hbj with
   |0,0,_,_,_,_=>rfl
   |1,1,_,_,_,_=>rfl
   |0,1,_,_,hbi,hbj=>rw[n0] at hbi; rw[n1] at hbj; cases hbj; exact absurd rfl (OL _ hbi).2
   |1,0,_,_,hbi,hbj=>rw[n1] at hbi; rw[n0] at hbj; cases hbi; exact absurd rfl (OL _ hbj).2
   |i+2,_,hi,_,_,_=>cases hi
   |_,j+2,_,hj,_,_=>cases hj
  ·have hg:g.G b:=hg;have key:∀k,CW ν S.h k→¬g.G k:=fun k ⟨j,hj,ho⟩=>@HR.ghne g _ _ _ hH j k hj ho
   match i,hi,hbi with
   |0,_,hbi=>rw[n0] at hbi; exact key b (OL b hbi).1 hg
   |1,_,hbi=>rw[n1] at hbi; cases hbi; exact key _ hb0L hg
   |i+2,hi,_=>cases hi
 have hargs:ý (@VR gp νp (υ x.it d) W1) zL [.func (.yield l) #[] #[],.pointer (some ⟨b0,0,none⟩)]:=⟨rfl,⟨flat x.it.ct d,b0,rfl,n1,rfl⟩,trivial⟩;obtain⟨⟨gfn,gc,hgf,hgc⟩,hcall⟩:=hit.ok gp rfl d xs hxs hyp νp W1 _ (cG _) Hp hargs;refine⟨l,marks.map mk1,W1,{target:=.fn (.func x.it.clo) #[.pointer (some ⟨b0,0,none⟩)],args:=#[.func (.yield l) #[] #[]]},W1,x.it.clo,#[.func (.yield l) #[] #[],.pointer (some ⟨b0,0,none⟩)],W1,henter,?_,fun f' _=>trivial,?_,fun q=>(by cases q),?_⟩
 ·simp only[resolve,rangeCall,hge];simp[go_sem]
 ·simp[invoke,callFunc,Sem.run_bind,run_program,Result.andThen_ok,hgf,hgc,hplain x.it.clo gfn hgf];simpa using hplain x.it.clo gfn hgf
 refine CallsIn.mono (show CallsIn (@fen g) 0 E.P _ _ _ _ from hcall) fun en W2 hw=>?_;obtain⟨νq,hq,u,rfl,Hq,evq,hacc,csq,hcsq,hdq⟩:=hw
 -- what the loop leaves
 have hBq:=@HR.blk gp _ _ _ Hq 0;rw[hacc] at hBq;obtain⟨us2,k1,k2,k3,k4⟩:=hBq;have k4:RJ g x ν S.h p xs Kf r ν1 S1.h a S1.t W1 (Ļ (νq 0)) (@Av gp νq hq) xs W2:=k4;obtain⟨j1,j2,j3,j4,j5,νe,ve,suf,q1,q2,q3,q4,q5,q6,q7,q8⟩:=k4
 have hsuf:suf=[]:=by
  have:=congrArg List.length q1;rw[cJ] at this;exact cX.1 (by omega)
 rw[hsuf] at q2;have hke:Kf ve=some r:=q2;have hl2:W2.heap[l]?=_:=j5 l _ hl1 rfl;obtain⟨W3,hW3⟩:∃W3,W3=W2.putObj l (.loop {state:=.exhausted,pending:=none,fn:=fn,tmps:=a.tmps,params:=ps,assign:=A,body:=Bd,defers:=dn}):=⟨_,rfl⟩;refine⟨none,W3,by rw[hW3]; exact run_endLoop (P:=E.P) hl2 (by simp),?_⟩;obtain⟨Se,hSe⟩:∃Se,Se=ü x.head x.cs x.vs p ve:=⟨_,rfl⟩;rw[←hSe] at q3 q4 q5 q6 q7 q8
 have s3:W3.heap.size=W2.heap.size:=by rw[hW3]; simp
 have h3o:∀b,b≠l→W3.heap[b]?=W2.heap[b]?:=fun b hb=>by rw[hW3]; exact World.putObj_heap_other hb
 have hG:∀b,g.G b→@Av gp νq hq b∧¬Ļ (νq 0) b∧b<W2.heap.size:=fun b hb=>⟨.inr hb,fun ho=>@HR.ghne gp _ _ _ Hq 0 b (by rw[hacc]; rfl) ho hb,@HR.ghlt gp _ _ _ Hq b hb⟩;obtain⟨G2,hG2⟩:∃G2:Nat→Prop,G2=fun k=>@Av gp νq hq k∧¬Ļ (νq 0) k∧k<W2.heap.size:=⟨_,rfl⟩;rw[←hG2] at q4 q5
 have hGs:∀b,g.G b→G2 b:=fun b hb=>by rw[hG2]; exact hG b hb
 have KG3:mc (g.re G2 [] none 0) νe Se.h W2 G2 W3:=by
  refine⟨by rw[hW3]; rfl,by rw[hW3]; rfl,by rw[hW3]; rfl,gK s3.symm,fun b _ hn hb=>hn (.inr hb),fun b o hb ho _=>?_,fun b o hb ho hlt=>?_⟩
  ·rw[hW3]; exact nA hl2 b o hb (.inl ho)
  ·rw[hW3]; exact nA hl2 b o hb (.inr fun q=>by have:b<g.B:=hlt; omega)
 have H3:@HR (g.re G2 [] none 0) νe Se.h W3:=HR.step (g:=g.re G2 [] none 0) (D:=[]) (Q:=none) (M:=0) KG3 (fun b hb=>by rw[hG2] at hb; have:=hb.2.2; omega) (fun b hb hg=>by rw[hG2] at hg; exact hg.2.1 ((q3 b).2 hb)) q4;have nd3:∀(k:Nat) (o:Obj),W1.heap[k]?=some o→NR o=false→k≠l→W3.heap[k]?=some o:=fun k o hk ho hkl=>(h3o k hkl).trans (j5 k o hk ho)
 have hSt:Se.t=S1.t:=by rw[hSe,hS1]; exact htm p v ve
 have V3:∀i,@VR (g.re G2 [] none 0) νe Se.h W3 (lk Se.t i) (a.tmps.getD i undef):=fun i=>by rw[hSt]; exact VR.step (g:=g.re G2 [] none 0) (D:=[]) (Q:=none) (M:=0) KG3 (q5 i)
 have hfr3:@Fr g W3 (marks.map mk1++a.defers):=by
  obtain⟨⟨ms,m1,m2,m3⟩,m4,m5,m6⟩:=hfr;have lt3:∀k∈ms,k<w.heap.size:=fun k hk=>ď (m3 k hk).1;refine⟨⟨marks++ms,?_,?_,fun k hk=>?_⟩,fun l' hl'=>?_,m5,by omega⟩
  ·rw[m1,fj,cQ]
  ·refine List.nodup_append.2 ⟨hmn,m2,fun k1 h1 k2 h2 q=>?_⟩;have:=(hmk k1 h1).2;have:=lt3 k2 h2;omega
  ·rcases cM.1 hk with hk|hk
   ·obtain⟨z1,z2⟩:=hmk k hk;exact⟨nd3 k _ z1 rfl (fun q=>by rw[q,hl1] at z1; cases z1),cY m6 z2⟩
   ·exact⟨nd3 k _ (hold _ _ (m3 k hk).1) rfl (fun q=>by have:=lt3 k hk; omega),(m3 k hk).2⟩
  ·obtain⟨r',hr'⟩:=m4 l' hl';exact⟨r',nd3 l' _ (hold _ _ hr') rfl (fun q=>by have:=ď hr'; omega)⟩
 have ple:x.pin≤Se.h.length:=by rw[hSe]; exact hlen ve
 have blk3:∀i,i<m→i≠id→(lkB S.h i).next ν νe i (lkB Se.h i):=fun i hi hne=>by
  have z1:lkB h0 i=lkB S.h i:=by rw[hh0]; exact Ó _ hne
  have z2:=ev1.blk i (dc hi hmp);rw[z1] at z2;exact Blk.next_trans z2 (q7 i (dc hi hmp))
 have dd3:∀j,j<m→lkB S.h j=.dead→j≠id∧lkB Se.h j=.dead:=fun j hj hd2=>by
  have hne:j≠id:=fun q=>by rw[q,hl] at hd2; cases hd2
  have z1:lkB h0 j=.dead:=by rw[hh0,Ó _ hne]; exact hd2
  exact⟨hne,q8 j (by omega) (dd1 j (by omega) z1)⟩
 have keep3:∀b,b<w.heap.size→¬CW ν S.h b→W3.heap[b]?=w.heap[b]?:=fun b hb hn=>by
  rw[h3o b (by omega),(evq.keep b (by omega) fun hL2=>?_).1,hW1d b hb];rcases Lp b hL2 with q|rfl
  ·exact hn (OL b q).1
  ·exact hn hb0L
 have oss:W3.os=w.os∧W3.tape=w.tape∧W3.output=w.output:=by
  rw[hW3];exact⟨j1.trans hW1o.1,j2.trans hW1o.2.1,j3.trans hW1o.2.2⟩
 have sz3:w.heap.size≤W3.heap.size:=by omega
 rw[hKf] at hke;simp only[←hSe] at hke
 by_cases hip:id<x.pin
 ·-- the box is there again
  have hbt:Nat.blt id x.pin=true:=Nat.ble_eq_true_of_le hip;rw[hbt] at hke;have hd0:lkB Se.h id=.dead:=q8 id hip (dd1 id hip (by rw[hh0]; exact â _ hid));have hidl:id<Se.h.length:=dc hip ple;have hq1:=evq.blk 1 (by omega)
  have hν1:νq 1=.pointer (some ⟨b0,0,none⟩):=by
   have:(lkB (υ x.it d) 1)=.cells (flat x.it.ct d):=rfl;rw[this] at hq1;exact hq1.2.trans n1
  have hq1b:=@HR.blk gp _ _ _ Hq 1;rw[hcsq] at hq1b;obtain⟨b1,c1,e1',z1,z2,z3⟩:=hq1b;rw[hν1] at z1;cases z1
  have lv1:(lkB hq 1).live=true:=by rw[hcsq]; rfl
  have lv0:(lkB hq 0).live=true:=by rw[hacc]; rfl
  have own1:Ļ (νq 1) b0:=by rw[hν1]; rfl
  have hb02:G2 b0:=by
   rw[hG2];exact⟨.inl ⟨1,lv1,own1⟩,fun q=>absurd (@HR.inj gp _ _ _ Hq 0 1 b0 lv0 lv1 q own1) (by omega),ď z2⟩
  have hgb:¬g.G b0:=fun q=>@HR.ghne g _ _ _ hH id b0 (by rw[hl]; rfl) (by rw[hν]; rfl) q
  have hlb:b0≠l:=fun q=>by rw[q,hl2] at z2; cases z2
  have hw3:W3.heap[b0]?=some (.cells c1 e1' (0,0)):=(h3o b0 hlb).trans z2;have hcr2:CR W2 (@Av gp νq hq) x.it.ct d c1.toList:=ğ hdq (ý.mono (fun _ _ hx=>@VR1.data gp _ _ _ _ _ hx.1) z3)
  have hcr3:CR W3 (@Av (g.re g.G g.D g.Q g.M) (ï νe id (.pointer (some ⟨b0,0,none⟩))) (ð Se.h id (.cells (flat x.it.ct d)))) x.it.ct d c1.toList:=by
   refine CR.kx ⟨gK s3.symm,fun b _ hn hx=>hn ?_,fun b o hb ho _=>by rw[hW3]; exact nA hl2 b o hb (.inl ho)⟩ hcr2;rcases hx with⟨j,hj,ho⟩|hx
   ·by_cases q:j=id
    ·rw[q,Ï] at ho; cases ho; exact .inl ⟨1,lv1,own1⟩
    ·rw[Ó _ q] at hj; rw[ė _ _ q] at ho;exact .inl ⟨0,lv0,(q3 b).2 ⟨j,hj,ho⟩⟩
   ·exact .inr hx
  have hrE:=ajP (g:=g) (D:=g.D) (Q:=g.Q) (M:=g.M) hd0 hidl hGs hb02 hgb hw3 (@lR (g.re g.G g.D g.Q g.M) _ _ _ _ _ _ hcr3) H3;refine⟨_,_,@Sim.mk g _ _ _ _ hfr3 (by show Se.t.length≤_; rw[hSt]; exact htl) (fun i=>ajO (g:=g) (D:=g.D) (Q:=g.Q) (M:=g.M) hd0 hidl hGs hb02 (V3 i)) (HR.er hrE),⟨oss.1,oss.2.1,oss.2.2,sz3,fun b hb hn=>⟨keep3 b hb hn,?_⟩,fun i hi=>?_⟩,?_,fun j hj hd2=>?_,hke⟩
  ·rintro⟨j,hj,ho⟩
   by_cases q:j=id
   ·rw[q,Ï] at ho; cases ho; exact hn hb0L
   ·have hj:(lkB (ð Se.h id (.cells (flat x.it.ct d))) j).live=true:=hj;rw[Ó _ q] at hj; rw[ė _ _ q] at ho;exact q6 b (by omega) hn ⟨j,hj,ho⟩
  ·show(lkB S.h i).next ν _ i (lkB (ð Se.h id (.cells (flat x.it.ct d))) i)
   by_cases q:i=id
   ·subst q;rw[â _ hidl,hl];exact⟨⟨_,rfl⟩,by rw[Ï,hν]⟩
   ·rw[Ó _ q];have z:=blk3 i hi q;have e:=ė νe (.pointer (some ⟨b0,0,none⟩)) q;revert z
    cases lkB S.h i<;>intro z
    ·trivial
    ·exact⟨z.1,e.trans z.2⟩
    ·obtain⟨g',fz,xs',y1,y2,y3⟩:=z;exact⟨g',fz,xs',y1,y2,fun y4=>⟨e.trans (y3 y4).1,(y3 y4).2⟩⟩
    ·exact⟨z.1,e.trans z.2⟩
    ·obtain⟨g',xs',y1,y2,y3⟩:=z;exact⟨g',xs',y1,y2,fun y4=>⟨e.trans (y3 y4).1,(y3 y4).2⟩⟩
    ·exact z
  ·show m≤(ð Se.h id (.cells (flat x.it.ct d))).length;rw[Ñ]; omega
  ·obtain⟨hne,hde⟩:=dd3 j hj hd2;show lkB (ð Se.h id (.cells (flat x.it.ct d))) j=.dead;rw[Ó _ hne]; exact hde
 ·have hbt:Nat.blt id x.pin=false:=by
   cases hq:Nat.blt id x.pin with
   |false=>rfl
   |true=>exact absurd (eZ hq) hip
  rw[hbt] at hke;have KGl:mc (g.re G2 [] none 0) νe Se.h W3 g.G W3:=mc.less hGs;refine⟨νe,Se,@Sim.mk g _ _ _ _ hfr3 (by rw[hSt]; exact htl) (fun i=>VR.step (g:=g.re G2 [] none 0) (D:=g.D) (Q:=g.Q) (M:=g.M) KGl (V3 i)) (HR.step (g:=g.re G2 [] none 0) (D:=g.D) (Q:=g.Q) (M:=g.M) KGl (fun b hb=>by have:=(hG b hb).2.2; omega) (fun b hb hg=>(hG b hg).2.1 ((q3 b).2 hb)) H3),⟨oss.1,oss.2.1,oss.2.2,sz3,fun b hb hn=>⟨keep3 b hb hn,q6 b (by omega) hn⟩,fun i hi=>blk3 i hi (by omega)⟩,by omega,fun j hj hd2=>(dd3 j hj hd2).2,hke⟩
end
end
end Go.Am
end

noncomputable section
namespace Go.Am
variable [Ghost]
section
variable {ρ:Type} {ν ν':Nat→Value} {h h':List Blk} {w w':World} {P:Program}
structure à (ρ:Type) where
 path:List Nat
 fid:Nat
 bid:Nat
 L:Æ
 bF:Val (tyL L.cs)→Val (tyL L.vs)→(Val (tyL L.vs)→Option ρ)→((i:Nat)→Val (tyL (L.zs i))→Option ρ)→Option ρ
def eqL:List Nat→List Nat→Bool
 |[],[]=>true
 |a::l,b::m=>Nat.beq a b&&eqL l m
 |_,_=>false
def ae2 (S:St):List (à ρ)→List Nat→Nat→Nat→Option (à ρ)
 |[],_,_,_=>none
 |x::l,path,fid,bid=>match Nat.beq x.bid bid&&(Nat.beq x.fid fid&&(eqL x.path path&&fitsS x.L S)) with
  |true=>some x
  |false=>ae2 S l path fid bid
def kD (tab:List (à ρ)) (path:List Nat) (fid bid m:Nat) (S:St) (K:Exit→St→Option ρ):Option ρ :=
 match ae2 S tab path fid bid with
 |some x=>XY x.L x.bF m S K
 |none=>none
structure JEnt where
 path:List Nat
 fid:Nat
 rid:Nat
 pin:Nat
 tpl:Tpl
 vs:List Ty
def acv:List (Nat×ã)→Nat→Option ã
 |[],_=>none
 |x::l,f=>match Nat.beq x.1 f with
  |true=>some x.2
  |false=>acv l f
def Tq:List (Nat×Nat)→Nat→Option Nat
 |[],_=>none
 |x::l,s=>match Nat.beq x.1 s with
  |true=>some x.2
  |false=>Tq l s
structure à.Ok (E:Env ρ) (x:à ρ):Prop where
 one:(((ħ E.P x.fid).elim [] (Ý 0)).filter fun y=>Nat.beq y.1 x.bid).length=1
 law:∀p v kn kx,goC E (ŵ E (10-x.path.length / 2)) x.fid x.path x.L.pin x.bid (uF (ħ E.P x.fid) x.bid) (ü x.L.head x.L.cs x.L.vs p v) (FR x.L kn kx)=x.bF p v (kn p) (fun i=>kx i p)
omit [Ghost] in
def aa7:∀{l m:List Nat},eqL l m=true→l=m
 |[],[],_=>rfl
 |a::l,b::m,h=>by
  simp only[eqL,cH] at h;rw[cR h.1,aa7 h.2]
 |[],_::_,h=>by cases h
 |_::_,[],h=>by cases h
omit [Ghost] in
def Qx:∀{tab:List (à ρ)} {path:List Nat} {fid bid:Nat} {S:St} {x:à ρ},ae2 S tab path fid bid=some x→x∈tab∧x.path=path∧x.fid=fid∧x.bid=bid
 |[],_,_,_,_,_,h=>by cases h
 |y::tab,path,fid,bid,S,x,h=>by
  unfold ae2 at h
  split at h
  ·rename_i hb;simp only[cH] at hb;cases h;exact⟨by simp,aa7 hb.2.2.1,cR hb.2.1,cR hb.1⟩
  ·obtain⟨h1,h2⟩:=Qx h;exact⟨by simp[h1],h2⟩
omit [Ghost] in
def Qw:∀{tab:List (Nat×ã)} {f:Nat} {p:ã},acv tab f=some p→(f,p)∈tab
 |[],_,_,h=>by cases h
 |y::tab,f,p,h=>by
  unfold acv at h
  split at h
  ·rename_i hb;cases h;rw[←cR hb]; simp
  ·exact du _ (Qw h)
omit [Ghost] in
def Ž:∀(c:Code) (b0:Nat) {bid:Nat} {b:LI},(bid,b)∈Ý b0 c→∀y∈b.loops bid,y∈Ý b0 c
 |.seq c d,b0,bid,b,h,y,hy=>by
  simp only[Ý,cM] at h ⊢;exact h.imp (fun h=>Ž c b0 h y hy) (fun h=>Ž d b0 h y hy)
 |.cond _ c d,b0,bid,b,h,y,hy=>by
  simp only[Ý,cM] at h ⊢;exact h.imp (fun h=>Ž c b0 h y hy) (fun h=>Ž d b0 h y hy)
 |.block id c,b0,bid,b,h,y,hy=>by
  simp only[Ý] at h ⊢;exact Ž c id h y hy
 |.loop c,b0,bid,b,h,y,hy=>by
  simp only[Ý,cN,Prod.mk.injEq] at h ⊢;rcases h with⟨rfl,rfl⟩|h
  ·exact .inr hy
  ·exact .inr (Ž c b0 h y hy)
 |.skip,_,_,_,h,_,_=>by cases h
 |.region ..,_,_,_,h,_,_=>by cases h
 |.exit _,_,_,_,h,_,_=>by cases h
 |.ret,_,_,_,h,_,_=>by cases h
 |.label _,_,_,_,h,_,_=>by cases h
 |.goto _,_,_,_,h,_,_=>by cases h
 |.rangeFunc g ps c d,b0,bid,b,h,y,hy=>by
  simp only[Ý,cN,cM,Prod.mk.injEq] at h ⊢;rcases h with⟨rfl,rfl⟩|h|h
  ·exact .inr (cM.1 hy)
  ·exact .inr (.inl (Ž c b0 h y hy))
  ·exact .inr (.inr (Ž d b0 h y hy))
 |.scope c,b0,bid,b,h,y,hy=>by
  simp only[Ý] at h ⊢;exact Ž c b0 h y hy
 |.refuse _,_,_,_,h,_,_=>by cases h
def LI.sz:LI→Nat
 |.lp b=>SizeOf.sizeOf b
 |.rf _ _ a b=>SizeOf.sizeOf a+SizeOf.sizeOf b
omit [Ghost] in
def ō:∀(c:Code) (b0:Nat) {bid:Nat} {b:LI},(bid,b)∈Ý b0 c→b.sz<SizeOf.sizeOf c
 |.seq c d,b0,bid,b,h=>by
  simp only[Ý,cM] at h;rcases h with h|h
  ·have:=ō c b0 h; simp; omega
  ·have:=ō d b0 h; simp; omega
 |.cond _ c d,b0,bid,b,h=>by
  simp only[Ý,cM] at h;rcases h with h|h
  ·have:=ō c b0 h; simp; omega
  ·have:=ō d b0 h; simp; omega
 |.block id c,b0,bid,b,h=>by
  have:=ō c id h; simp; omega
 |.loop c,b0,bid,b,h=>by
  simp only[Ý,cN,Prod.mk.injEq] at h;rcases h with⟨rfl,rfl⟩|h
  ·simp[LI.sz]
  ·have:=ō c b0 h; simp; omega
 |.skip,_,_,_,h=>by cases h
 |.region ..,_,_,_,h=>by cases h
 |.exit _,_,_,_,h=>by cases h
 |.ret,_,_,_,h=>by cases h
 |.label _,_,_,_,h=>by cases h
 |.goto _,_,_,_,h=>by cases h
 |.rangeFunc g ps c d,b0,bid,b,h=>by
  simp only[Ý,cN,cM,Prod.mk.injEq] at h;rcases h with⟨rfl,rfl⟩|h|h
  ·simp[LI.sz]; omega
  ·have:=ō c b0 h; simp; omega
  ·have:=ō d b0 h; simp; omega
 |.scope c,b0,bid,b,h=>by
  have:=ō c b0 h; simp; omega
 |.refuse _,_,_,_,h=>by cases h
def abB (E:Env ρ) (n:Nat):Prop:=∀[Ghost],kh E→md E (22-2*n) (ŵ E n)
def CV (E:Env ρ):Prop:=∀n,n≤10→abB E n→∀[Ghost],kh E→∀(path:List Nat) (f:Nat) (fn:Func) (c:Code),path.length+2=22-2*n→E.P.funcs[f]?=some fn→fn.body=some c→∀x∈Ý 0 c,sL E path f x.1 x.2
omit [Ghost] in
def Mz {c:Code} {bid:Nat} {b:LI} (hone:((Ý 0 c).filter fun y=>Nat.beq y.1 bid).length=1) (hx:(bid,b)∈Ý 0 c):mj (some c) bid=b:=by
 have hmem:(bid,b)∈(Ý 0 c).filter fun y=>Nat.beq y.1 bid:=List.mem_filter.2 ⟨hx,by simp⟩;obtain⟨z,hz⟩:=List.length_eq_one_iff.1 hone;rw[hz,List.mem_singleton] at hmem;unfold mj;simp only
 cases hfd:(Ý 0 c).find? fun y=>y.1==bid with
 |none =>
  have:=ej.1 hfd _ hx;simp at this
 |some y =>
  have hy1:=fC hfd;have hy2:=gj hfd;have:y∈(Ý 0 c).filter fun y=>Nat.beq y.1 bid:=dH.2 ⟨hy1,by simpa using hy2⟩;rw[hz,cP] at this;rw[this,←hmem]
def ae1:List (FN ρ)→List Nat→Nat→Nat→Option (FN ρ)
 |[],_,_,_=>none
 |x::l,path,fid,bid=>match Nat.beq x.bid bid&&(Nat.beq x.fid fid&&eqL x.path path) with
  |true=>some x
  |false=>ae1 l path fid bid
def Ν (tab:List (FN ρ)) (path:List Nat) (fid bid m:Nat) (g:AV) (S:St) (K:Exit→St→Option ρ):Option ρ :=
 match ae1 tab path fid bid with
 |some x=>rngK x m g S K
 |none=>none
omit [Ghost] in
def Qv:∀{tab:List (FN ρ)} {path:List Nat} {fid bid:Nat} {x:FN ρ},ae1 tab path fid bid=some x→x∈tab∧x.path=path∧x.fid=fid∧x.bid=bid
 |[],_,_,_,_,h=>by cases h
 |y::tab,path,fid,bid,x,h=>by
  unfold ae1 at h
  split at h
  ·rename_i hb;simp only[cH] at hb;cases h;exact⟨by simp,aa7 hb.2.2,cR hb.2.1,cR hb.1⟩
  ·obtain⟨h1,h2⟩:=Qv h;exact⟨by simp[h1],h2⟩
def QR:LI→Bool
 |.rf _ ps _ _=>match ps.toList with
  |[_]=>true
  |_=>false
 |_=>true
omit [Ghost] in
def EO {E:Env ρ} (hmix:E.P.follows .mixedOrders=true) {tab:List (à ρ)} (hE:E.loops=kD tab) (hok:∀x∈tab,x.Ok E) {rtab:List (FN ρ)} (hR:E.ranges=Ν rtab) (hrok:∀x∈rtab,x.Ok E) (hrs:∀x∈rtab,QR (mj (ħ E.P x.fid) x.bid)=true):CV E:=by
 intro n hn hEnv g0 hy path f fn c hp hf hc
 have hbody:ħ E.P f=some c:=by simp only[ħ,hf,hc]
 have key:∀(N:Nat) (x:Nat×LI),x.2.sz<N→x∈Ý 0 c→∀[Ghost],kh E→sL E path f x.1 x.2:=by
  intro N
  induction N with
  |zero=>intro x h; omega
  |succ N ih =>
   intro⟨bid,b⟩ hN hx
   have szs:∀y∈b.loops bid,y.2.sz<N:=fun y hy=>by
    cases b with
    |lp b=>have:=ō b bid (bid:=y.1) (b:=y.2) hy; simp only[LI.sz] at hN; omega
    |rf gop ps A Bd =>
     simp only[LI.sz] at hN;rcases cM.1 hy with hy|hy
     ·have:=ō A bid (bid:=y.1) (b:=y.2) hy; omega
     ·have:=ō Bd bid (bid:=y.1) (b:=y.2) hy; omega
   have hin:∀[Ghost],kh E→∀y∈b.loops bid,sL E path f y.1 y.2:=fun hy' y hy=>ih y (szs y hy) (Ž c 0 hx y hy) hy';intro g1 hy1
   cases b with
   |lp b =>
    intro m S K r ν a w e H hm;rw[hE] at e;unfold kD at e
    cases hfe:ae2 S tab path f bid with
    |none =>
     rw[hfe] at e;cases e
    |some x =>
     obtain⟨h1,h2,h3,h4⟩:=Qx hfe;obtain⟨hone,hlaw⟩:=hok x h1;subst h3 h4;rw[hbody] at hone hlaw;simp only[Option.elim] at hone
     have hb:uF (some c) x.bid=b:=by unfold uF; rw[Mz hone hx]
     rw[hb] at hlaw
     have hd:10-x.path.length / 2=n:=by rw[h2]; omega
     rw[hd,h2] at hlaw;rw[←h2] at hlaw;rw[hfe] at e;exact ag6 (path:=x.path) Rk (hEnv hy1) (m8 hmix _ _ (hEnv hy1)) (by rw[h2]; omega) (by rw[h2]; exact hin hy1) x.L x.bF (fun p v kn kx=>hlaw p v kn kx) e H hm
   |rf gop ps A Bd =>
    intro m S K r ν a w e H hm;rw[hR] at e;unfold Ν at e
    cases hfe:ae1 rtab path f bid with
    |none =>
     rw[hfe] at e;cases e
    |some x =>
     obtain⟨h1,h2,h3,h4⟩:=Qv hfe;obtain⟨hone,hit,htm,hst,hlaw⟩:=hrok x h1;have hs1:=hrs x h1;subst h3 h4;rw[hbody] at hone hlaw hs1;simp only[Option.elim] at hone;rw[Mz hone hx] at hlaw hs1
     have hd:10-x.path.length / 2=n:=by rw[h2]; omega
     rw[hd] at hlaw;rw[hfe] at e
     have hps:∃p0,ps.toList=[p0]:=by
      simp only[QR] at hs1
      split at hs1
      ·exact⟨_,‹_›⟩
      ·cases hs1
     exact adP (x:=x) hEnv (fun hE=>m8 hmix _ _ hE) (by rw[h2]; omega) hy1 (fun hy z hz=>by rw[h2]; exact hin hy z hz) hit htm hst hlaw hps (hEnv hy1).plain e H hm
 exact fun x hx=>key _ x (Nat.lt_succ_self _) hx hy
omit [Ghost] in
def JI {E:Env ρ} (hmix:E.P.follows .mixedOrders=true) {tab:List (à ρ)} (hE:E.loops=kD tab) (hok:∀x∈tab,x.Ok E) (hR:E.ranges=Ν []):CV E :=
 EO hmix hE hok hR (fun _ h=>by cases h) (fun _ h=>by cases h)
structure ahZ where
 path:List Nat
 fid:Nat
 bid:Nat
 n:Nat
def ahp:List ahZ→List Nat→Nat→Nat→Option ahZ
 |[],_,_,_=>none
 |x::l,path,fid,bid=>match Nat.beq x.bid bid&&(Nat.beq x.fid fid&&eqL x.path path) with
  |true=>some x
  |false=>ahp l path fid bid
def aaF (E0:Env ρ) (us:List ahZ) (path:List Nat) (fid bid m:Nat) (S:St) (K:Exit→St→Option ρ):Option ρ :=
 match ahp us path fid bid with
 |some u=>QM (fun S K=>goC E0 (ŵ E0 (10-u.path.length / 2)) u.fid u.path m u.bid (uF (ħ E0.P u.fid) u.bid) S K) u.n S K
 |none=>E0.loops path fid bid m S K
omit [Ghost] in
def Qu:∀{tab:List ahZ} {path:List Nat} {fid bid:Nat} {x:ahZ},ahp tab path fid bid=some x→x∈tab∧x.path=path∧x.fid=fid∧x.bid=bid
 |[],_,_,_,_,h=>by cases h
 |y::tab,path,fid,bid,x,h=>by
  unfold ahp at h
  split at h
  ·rename_i hb;simp only[cH] at hb;cases h;exact⟨by simp,aa7 hb.2.2,cR hb.2.1,cR hb.1⟩
  ·obtain⟨h1,h2⟩:=Qu h;exact⟨by simp[h1],h2⟩
def HG {E:Env ρ} {call:List Nat→Bool→Nat→List AV→List Blk→(AV→List Blk→Option ρ)→Option ρ} {N:Nat} (hE:md E N call) (hD:vf E N call) {fid bid m:Nat} {path:List Nat} (hpath:path.length+2=N) {b:Code}
 (hin:∀x∈Ý bid b,sL E path fid x.1 x.2) {K:Exit→St→Option ρ} {r:ρ} {h₀:List Blk} {ν₀:Nat→Value} {w₀:World}:∀(n:Nat) (S:St) (ν:Nat→Value) (a:Act) (w:World),QM (fun S K=>goC E call fid path m bid b S K) n S K=some r→Sim ν S a w→m≤S.h.length→Ev m ν₀ h₀ w₀ ν S.h w→Dd m h₀ S.h →
  Code.roundsIn fen 0 E.P b (ZS m ν₀ h₀ w₀ K r) n a w
 |0,S,ν,a,w,e,_,_,_,_=>by cases e
 |n+1,S,ν,a,w,e,H,hm,ev,dd=>by
  rw[roundsIn_succ];simp only[QM] at e;refine wpIn_mono (uL hE hD hpath b bid S _ ν a w hin e H hm) fun x a₂ w₂ ha=>?_;obtain⟨ν₂,S₂,H2,ev2,hp2,dd2,hk⟩:=ha;have ev12:=ev.trans ev2 (cG m);have dd12:=dd.trans dd2 (cG m)
  cases x with
  |normal=>exact HG hE hD hpath hin n S₂ ν₂ a₂ w₂ hk H2 hp2 ev12 dd12
  |exit id=>exact⟨ν₂,S₂,H2,ev12,hp2,dd12,hk⟩
  |ret=>exact⟨ν₂,S₂,H2,ev12,hp2,dd12,hk⟩
  |goto l=>exact⟨ν₂,S₂,H2,ev12,hp2,dd12,hk⟩
  |panic ch=>exact⟨ν₂,S₂,H2,ev12,hp2,dd12,hk⟩
  |outgrown=>exact⟨ν₂,S₂,H2,ev12,hp2,dd12,hk⟩
omit [Ghost] in
def aeo {E E0:Env ρ} (hlib0:∀[Ghost],kh E0→FH E0) (hP:E0.P=E.P) (hyl:E0.yld=none) (hra:E.ranges=Ν []) (hmix:E0.P.follows .mixedOrders=true) (hl0:CV E0) {us:List ahZ} (hE:E.loops=aaF E0 us)
 (hone:∀u∈us,(((ħ E.P u.fid).elim [] (Ý 0)).filter fun y=>Nat.beq y.1 u.bid).length=1):CV E:=by
 intro n hn _ g0 _ path f fn c hp hf hc;have hall:=qE hlib0 (fun L call hE=>m8 hmix L call hE) hl0;have hy0:kh E0:=i5 hyl;have hEnv:=hall n hn hy0;have hdraw:vf E0 (22-2*n) (ŵ E0 n):=m8 hmix _ _ hEnv;have hin:=hl0 n hn (hall n hn) hy0 path f fn c hp (hP▸hf) hc
 have hbody:ħ E.P f=some c:=by simp only[ħ,hf,hc]
 intro⟨bid,b⟩ hx
 cases b with
 |rf gop ps A Bd =>
  intro m S K r ν a w e;rw[hra] at e;cases e
 |lp b =>
 intro m S K r ν a w e H hm;rw[hE] at e;unfold aaF at e
 split at e
 ·rename_i u hu;obtain⟨h1,h2,h3,h4⟩:=Qu hu
  have hd:10-u.path.length / 2=n:=by rw[h2]; omega
  have h5:=hone u h1;rw[h3,h4,hbody] at h5
  have hb:uF (some c) bid=b:=by unfold uF; rw[Mz h5 hx]
  rw[hd,h2,h3,h4,hP,hbody,hb] at e;have:=HG hEnv hdraw hp (fun y hy=>hin y (Ž c 0 hx y hy)) u.n S ν a w e H hm (Ev.refl _ _ _ _) (Dd.refl _ _);rw[hP] at this;exact wpIn_loop_rounds u.n this
 ·have:=hin (bid,.lp b) hx m S K r ν a w e H hm
  rwa [hP] at this
def Re (H:HR ν h w) {c:AV} {u:Value} (hu:VR1 ν h w c u):VRs w Ghost.G (ÿ h c) u:=C7 H (fun b hb=>.inr hb) hu fun id b _ hl hb=>H.ghne id b hl hb
def ad0 (H:HR ν h w) {id:Nat} {cs:List AV} (hl:lkB h id=.cells cs):(∀b,Ļ (ν id) b→¬Ghost.G b)∧∀c∈cs,∀u,VR1 ν h w c u→VRs w Ghost.G (ÿ h c) u :=
 ⟨fun b hb=>H.ghne id b (by rw[hl]; rfl) hb,fun _ _ _ hu=>Re H hu⟩
def ý.up2:∀{as:List AV} {vs:List Value},ý (Go.Am.VR2 ν h w) as vs→ý (Go.Am.VR ν h w) as vs
 |[],[],_=>trivial
 |_::_,_::_,h=>⟨h.1.up,ý.up2 h.2⟩
 |[],_::_,h=>h.elim
 |_::_,[],h=>h.elim
def aai (H:HR ν h w):∀(l:List Ty) {x:Val (tyL l)} {v:AV} {u:Value},VR ν h w v u→ai2 l h v=some x→RR w Ghost.G l x u
 |[],_,_,_,_,e=>by cases e
 |[t],x,v,u,hv,e=>TZ H hv (fun _ _ _ hu=>Re H hu) (fun _ _ _ hl=>ad0 H hl) (fun id _ _ hl b hb=>H.ghne id b hl hb) e
 |t::u'::l,x,v,u,hv,e=>by
  cases v with
  |tup as =>
   obtain⟨us,rfl,h2⟩:=hv;exact⟨us,rfl,NC H (u'::l) t x as us.toList h2.up2 (fun _ _ _ _ _ hu=>Re H hu) (fun _ _ _ _ _ hl=>ad0 H hl) (fun _ _ id _ _ hl b hb=>H.ghne id b hl hb) e⟩
  |_=>cases e
def AT.mono {G G':Nat→Prop} (hm:∀b,G' b→G b):∀{l:List Ty} {t:Ty} {x:Val (tys t l)} {vs:List Value},AT w G l t x vs→AT w G' l t x vs
 |[],t,x,vs,⟨v,h1,h2⟩=>⟨v,h1,h2.mono hm⟩
 |u::l,t,x,vs,⟨v,vs',h1,h2,h3⟩=>⟨v,vs',h1,h2.mono hm,AT.mono hm h3⟩
def AL.mono {G G':Nat→Prop} (hm:∀b,G' b→G b):∀{l:List Ty} {x:Val (tyL l)} {vs:List Value},AL w G l x vs→AL w G' l x vs
 |[],_,_,h=>h
 |_::_,_,_,h=>AT.mono hm h
def AL.VR:∀{l:List Ty} {x:Val (tyL l)} {vs:List Value},AL w (Av ν h) l x vs→ý (VR ν h w) (Zn l x) vs
 |[],_,_,h=>by cases h; trivial
 |_::_,_,_,h=>AT.VR h
end
omit [Ghost] in
def QY {f:Nat} {p:ã} (E:Env (Val (tyL p.rs))) (hlib:∀[Ghost],FH E) (hmix:E.P.follows .mixedOrders=true) (hl:CV E) (law:Ke p E f):ki E.P f p:=by
 intro G x y hF w vals hG hAL
 letI g:Ghost:=Gh G
 have hL:=law x;rw[hF] at hL;unfold topK at hL;have hy:∀[Ghost],kh E:=FH.yld hlib;have hall:∀n,n≤10→abB E n:=qE (fun _=>hlib) (fun L call hE=>m8 hmix L call hE) hl;have hEM:∀M,@md (g.re g.G [] none M) _ E 2 (ŵ E 10):=fun M=>@hall 10 (Nat.le_refl _) (g.re g.G [] none M) (@hy _);have H:HR (fun _=>undef) [] w:=⟨fun _=>trivial,fun _ _ _ h=>(by cases h),hG,fun _ _ h=>(by cases h)⟩;have hav:∀b,Av (fun _=>undef) [] b→G b:=fun b hb=>hb.elim (fun⟨_,h,_⟩=>by cases h) id;have hargs:ý (VR (fun _=>undef) [] w) (Zn p.ts x) vals:=AL.VR (hAL.mono hav);obtain⟨h1,h2⟩:=wC hEM (fun M=>@m8 (g.re g.G [] none M) _ _ hmix _ _ (hEM M)) (path:=[]) rfl (fun M fn c hf hc=>@hl 10 (Nat.le_refl _) (hall 10 (Nat.le_refl _)) (g.re g.G [] none M) (@hy _) [] f fn c rfl hf hc) hL H (Nat.zero_le _) hargs;refine⟨h1,h2.mono fun e w' hw=>?_⟩;obtain⟨ν',h',v,u,rfl,g1,g2,g3,g4,g5,g6⟩:=hw;refine⟨u,rfl,aai g2 _ g1 g6,fun b hb=>(g3.keep b hb fun⟨_,h,_⟩=>by cases h).1,g3.size,g3.os,g3.tape,g3.output⟩
omit [Ghost] in
def aal {f:Nat} {p:ã} (E:Env (Val (tyL p.rs))) (hlib:∀[Ghost],FH E) (hmix:E.P.follows .mixedOrders=true) {tab:List (à (Val (tyL p.rs)))} (hE:E.loops=kD tab) (hok:∀x∈tab,x.Ok E) (law:Ke p E f) (hR:E.ranges=Ν []:=by rfl):ki E.P f p :=
 QY E hlib hmix (JI hmix hE hok hR) law
omit [Ghost] in
def Kd {f:Nat} {p:ã} (E:Env (Val (tyL p.rs))) (hlib:∀[Ghost],FH E) (hmix:E.P.follows .mixedOrders=true) {tab:List (à (Val (tyL p.rs)))} (hE:E.loops=kD tab) (hok:∀x∈tab,x.Ok E) {rtab:List (FN (Val (tyL p.rs)))} (hR:E.ranges=Ν rtab) (hrok:∀x∈rtab,x.Ok E) (hrs:∀x∈rtab,QR (mj (ħ E.P x.fid) x.bid)=true) (law:Ke p E f):ki E.P f p :=
 QY E hlib hmix (EO hmix hE hok hR hrok hrs) law
omit [Ghost] in
def adQ {f:Nat} {p:ã} (E E0:Env (Val (tyL p.rs))) (hlib:∀[Ghost],FH E) (hlib0:∀[Ghost],FH E0) (hP:E0.P=E.P) (hmix:E.P.follows .mixedOrders=true) {tab:List (à (Val (tyL p.rs)))} (h0:E0.loops=kD tab) (hok:∀x∈tab,x.Ok E0) {us:List ahZ} (hE:E.loops=aaF E0 us)
 (hone:∀u∈us,(((ħ E.P u.fid).elim [] (Ý 0)).filter fun y=>Nat.beq y.1 u.bid).length=1) (law:Ke p E f) (hR0:E0.ranges=Ν []:=by rfl) (hR:E.ranges=Ν []:=by rfl) (hy0:E0.yld=none:=by rfl):ki E.P f p :=
 QY E hlib hmix (aeo (fun _=>hlib0) hP hy0 hR (hP▸hmix) (JI (hP▸hmix) h0 hok hR0) hE hone) law
def ME (it:aiy) (_:AV) (h:List Blk):Option (List (Val it.et)×Val it.ct):=match lkB h 0 with
 |.acc t xs=>match decEq t it.et with
  |isTrue e=>match lkB h 1 with
   |.cells cs=>match Ú it.ct cs with
    |some m=>some (wE (F:=fun t=>List (Val t)) e xs,m)
    |none=>none
   |_=>none
  |isFalse _=>none
 |_=>none
omit [Ghost] in
def Tk {P:Program} (it:aiy) (E:List (Val it.et)→Env (List (Val it.et)×Val it.ct)) (hag:it.et.isAgg=false) (hP:∀xs,(E xs).P=P) (hyl:∀xs,(E xs).yld=some ⟨it.et,xs⟩) (hlib:∀xs [Ghost],kh (E xs)→FH (E xs)) (hmix:P.follows .mixedOrders=true) (hl:∀xs,CV (E xs))
 (law:∀m xs,it.F m=some xs→uU (E xs) (ŵ (E xs) 10) [] it.clo zL (υ it m) (ME it)=some (xs,m)):kj P it:=by
 refine⟨hag,fun g hT m xs hF hy ν w vals hB H hargs=>?_⟩
 have hmx:(E xs).P.follows .mixedOrders=true:=by rw[hP]; exact hmix
 have hY:@kh g _ (E xs):=fun y he=>by rw[hyl] at he; cases he; rw[hP]; exact hy
 have hall:∀n,n≤10→abB (E xs) n:=qE (hlib xs) (fun L call hE=>m8 hmx L call hE) (hl xs);have hEM:∀M,@md (g.re g.G [] none M) _ (E xs) 2 (ŵ (E xs) 10):=fun M=>@hall 10 (Nat.le_refl _) (g.re g.G [] none M) hY;obtain⟨h1,h2⟩:=wC hEM (fun M=>@m8 (g.re g.G [] none M) _ _ hmx _ _ (hEM M)) (path:=[]) rfl (fun M fn c hf hc=>@hl xs 10 (Nat.le_refl _) (hall 10 (Nat.le_refl _)) (g.re g.G [] none M) hY [] it.clo fn c rfl hf hc) (law m xs hF) H hB hargs;rw[hP] at h1 h2;refine⟨h1,h2.mono fun e w' hw=>?_⟩;obtain⟨ν',h',v,u,rfl,g1,g2,g3,g4,g5,g6⟩:=hw;refine⟨ν',h',u,rfl,g2,g3,?_⟩;unfold ME at g6
 split at g6<;>try (cases g6; done)
 rename_i t ys hacc
 split at g6<;>try (cases g6; done)
 rename_i he _
 split at g6<;>try (cases g6; done)
 rename_i cs hcs
 split at g6<;>try (cases g6; done)
 rename_i m' hm;subst he;cases g6;exact⟨hacc,cs,hcs,hm⟩
omit [Ghost] in
def pH {p:ã} {E:Env (Val (tyL p.rs))} {f:Nat} (h:∀x:Val (tyL p.ts),topK E f (Zn p.ts x) (fun h v=>Ä (ai2 p.rs h v) some)=p.F x):Ke p E f:=fun x=>by
 rw[←h x];congr 1;funext h v;unfold Ä
 cases ai2 p.rs h v<;>rfl
omit [Ghost] in
def Å {α:Type} {Q:α→Prop}:∀x∈([]:List α),Q x:=fun _ h=>by cases h
omit [Ghost] in
def Á {α:Type} {Q:α→Prop} {a:α} {l:List α} (h:Q a) (hl:∀x∈l,Q x):∀x∈a::l,Q x:=fun x hx=>by
 rcases cN.1 hx with rfl|hx
 ·exact h
 ·exact hl x hx
@[reducible] def Gk (G:Nat→Prop) (D:List Deferred) (Q:Option Nat):Ghost:=⟨G,D,Q,0,0,0,.unit,fun _ _ _ _=>False,fun _ _ _ _ _ _ h=>h.elim⟩
end Go.Am
end

noncomputable section
namespace Go.Am
open Go.ChangeShapes Go.WideShapes Go.ChangeAt Go.RowKit
abbrev ajo:Nat→Prop:=fun _=>False
def Rng:(t:Ty)→Val t→Prop
 |.int .i64,n=>-9223372036854775808≤(n:Int)∧(n:Int)≤9223372036854775807
 |.pair a b,x=>Rng a (x:Val a×Val b).1∧Rng b (x:Val a×Val b).2
 |.slice t,l=>∀x∈(l:List (Val t)),Rng t x
 |_,_=>True
mutual
def agp (P:Program):Nat→Ty→TypeId→Bool
 |0,_,_=>false
 |n+1,τ,t =>
  match P.underlying t with
  |some .bool=>match τ with
   |.bool=>true
   |_=>false
  |some (.int k)=>match τ with
   |.int k'=>k==k'
   |_=>false
  |some .string=>match τ with
   |.str=>true
   |_=>false
  |some (.slice e)=>match τ with
   |.slice u=>agp P n u e&&(Nat.beq (P.cellsOf e) u.size&&Nat.ble 1 u.size)
   |_=>false
  |some (.struct fs)=>Nat.beq (P.cellsOf t) τ.size&&(τ.isAgg&&fieldsAre P n τ 0 fs.toList)
  |_=>false
def fieldsAre (P:Program):Nat→Ty→Nat→List Field→Bool
 |0,_,_,_=>false
 |n+1,τ,off,[f]=>Nat.beq f.offset off&&(Nat.beq (P.cellsOf f.type) τ.size&&agp P n τ f.type)
 |n+1,.pair a b,off,f::g::fs=>Nat.beq f.offset off&&(Nat.beq (P.cellsOf f.type) a.size&&(agp P n a f.type&&fieldsAre P n b (off+a.size) (g::fs)))
 |_,_,_,_=>false
end
def Rl {α β:Type} {f:α→Option β}:∀{l:List α} {ys:List β},l.mapM f=some ys→∀a∈l,∃y,f a=some y
 |[],ys,_,a,ha=>by cases ha
 |b::l,ys,h,a,ha=>by
  rw[List.mapM_cons] at h
  cases hb:f b with
  |none=>rw[hb] at h; cases h
  |some y =>
   rw[hb] at h
   cases hl:l.mapM f with
   |none=>simp[hl] at h
   |some zs =>
    rcases cN.1 ha with rfl|ha
    ·exact⟨y,hb⟩
    ·exact Rl hl a ha
def Nl {α:Type} {Q:Nat→α→Prop}:∀n:Nat,(∀i,i<n→∃x,Q i x)→∃xs:List α,xs.length=n∧∀i x,xs[i]?=some x→Q i x
 |0,_=>⟨[],rfl,fun i x h=>by simp at h⟩
 |n+1,h=>by
  obtain⟨xs,h1,h2⟩:=Nl n fun i hi=>h i (by omega);obtain⟨x,hx⟩:=h n (by omega);refine⟨xs++[x],by simp[h1],fun i y hy=>?_⟩;rcases dg i n with hi|hi
  ·rw[List.getElem?_append_left (by omega)] at hy; exact h2 i y hy
  ·rw[fU (by omega),h1] at hy
   have:i=n:=by
    rcases dg 0 (i-n) with h0|h0
    ·rw[List.getElem?_eq_none (by simp; omega)] at hy; cases hy
    ·omega
   subst this;simp at hy;rw[←hy]; exact hx
section
variable {H:Type} {enc:TypeId×Value→H} {P:Program} {w:World} {sp:Nat→Bool} {held:Bool}
def ahI {base:Nat} {a:Addr} {n:Nat} {cs:List Value} (h:w.cells? base a n=some cs) (hs:a.spot=none):CellsAt w a.block a.off cs:=by
 obtain⟨_,hl,hc⟩:=World.cells?_some h;intro j v hj;have hjl:j<cs.length:=(cI.1 hj).1;have:=hc j (by omega);rw[hj] at this;rw[←this];congr 1;obtain⟨b,o,s⟩:=a;simp only at hs;subst hs;exact(add_plain b o j).symm
def abw (enc:TypeId×Value→H) (P:Program) (w:World) (sp:Nat→Bool) (held:Bool) (n:Nat):Prop :=
 ∀(τ:Ty) (t:TypeId) (fuel:Nat) (cs:List Value) (d:DataW H) (ps:List MemPlace),agp P n τ t=true→DataW.trod enc P w 0 sp held fuel t cs=some (d,ps)→∃x:Val τ,CR w ajo τ x cs∧Rng τ x
def JV (enc:TypeId×Value→H) (P:Program) (w:World) (sp:Nat→Bool) (held:Bool) (n:Nat):Prop :=
 ∀(τ:Ty) (off:Nat) (fs:List Field) (fuel:Nat) (cs:List Value),fieldsAre P n τ off fs=true→(∀f∈fs,∃y,DataW.trod enc P w 0 sp held fuel f.type ((cs.drop f.offset).take (P.cellsOf f.type))=some y)→cs.length=off+τ.size→∃x:Val τ,CR w ajo τ x (cs.drop off)∧Rng τ x
set_option maxHeartbeats 1000000 in
def adn {n:Nat} (A:abw enc P w sp held n) (B:JV enc P w sp held n):abw enc P w sp held (n+1):=by
 intro τ t fuel cs d ps h e
 cases fuel with
 |zero=>simp[DataW.trod] at e
 |succ fuel =>
  unfold agp at h;unfold DataW.trod at e
  split at h
  ·-- bool
   rename_i hu;rw[hu] at e
   cases τ<;>try (cases h; done)
   rcases cs with _|⟨c,_|⟨c2,cs⟩⟩<;>try first|(cases e; done)|(simp at e; done)
   cases c<;>try (cases e; done)
   rename_i b;exact⟨(show Val .bool from b),rfl,trivial⟩
  ·-- int
   rename_i k hu;rw[hu] at e
   cases τ<;>try (cases h; done)
   rename_i k'
   have hk:k=k':=by simpa using h
   subst hk
   rcases cs with _|⟨c,_|⟨c2,cs⟩⟩<;>try first|(cases e; done)|(simp at e; done)
   cases c<;>try (cases e; done)
   rename_i k2 m;simp only at e
   split at e<;>try (cases e; done)
   rename_i hc;obtain⟨rfl,hwf⟩:=hc;refine⟨(show Val (.int k2) from m),rfl,?_⟩
   cases k2<;>try trivial
   simp only[Lit.wf,cH,decide_eq_true_eq] at hwf;exact hwf
  ·-- string
   rename_i hu;rw[hu] at e
   cases τ<;>try (cases h; done)
   rcases cs with _|⟨c,_|⟨c2,cs⟩⟩<;>try first|(cases e; done)|(simp at e; done)
   cases c<;>try (cases e; done)
   rename_i s;exact⟨(show Val .str from s),rfl,trivial⟩
  ·-- slice
   rename_i el hu;rw[hu] at e
   cases τ<;>try (cases h; done)
   rename_i u;simp only[cH] at h;obtain⟨h1,h2,h3⟩:=h;have hsz:P.cellsOf el=u.size:=cR h2;have hpos:1≤u.size:=eZ h3
   rcases cs with _|⟨c,_|⟨c2,cs⟩⟩<;>try first|(cases e; done)|(simp at e; done)
   cases c<;>try (cases e; done)
   rename_i base len cap
   cases base with
   |none =>
    cases len<;>cases cap<;>try (cases e; done)
    exact⟨(show Val (.slice u) from[]),⟨none,0,rfl,cG _,.inl rfl⟩,fun x hx=>by cases hx⟩
   |some a =>
    simp only at e
    split at e<;>try (cases e; done)
    rename_i hb
    cases hm:(List.range len).mapM (fun i=>(w.cells? 0 (a.add (i*P.cellsOf el)) (P.cellsOf el)).bind (DataW.trod enc P w 0 sp held fuel el)) with
    |none=>rw[hm] at e; cases e
    |some ajx =>
     clear e
     have each:∀i,i<len→∃x:Val u,∃us,w.cells? 0 (a.add (i*P.cellsOf el)) (P.cellsOf el)=some us∧CR w ajo u x us∧Rng u x:=by
      intro i hi;obtain⟨y,hy⟩:=Rl hm i (fO.2 hi)
      cases hc:w.cells? 0 (a.add (i*P.cellsOf el)) (P.cellsOf el) with
      |none=>rw[hc] at hy; cases hy
      |some us =>
       rw[hc] at hy;obtain⟨d',ps'⟩:=y;obtain⟨x,g1,g2⟩:=A u el fuel us d' ps' h1 hy;exact⟨x,us,rfl,g1,g2⟩
     obtain⟨xs,hl,hx⟩:=Nl len each;refine⟨(show Val (.slice u) from xs),⟨some a,cap,by rw[hl],by rw[hl]; exact hb.2.1,?_⟩,fun x hxm=>?_⟩
     ·rcases gh len with h0|h0
      ·left; exact cX.1 (by rw[hl,h0])
      ·right;obtain⟨x0,us0,c0,_,_⟩:=each 0 h0;have hblk:=World.cells?_block c0 (by omega);obtain⟨_,l0,g0⟩:=World.cells?_some c0
       have hspot:a.spot=none:=by
        have h5:=g0 0 (by omega);obtain⟨v0,hv0⟩:∃v0,us0[0]?=some v0:=⟨us0[0],cF (by omega)⟩;rw[hv0] at h5;simpa[Addr.add] using World.cell?_spot h5
       obtain⟨b,o,s⟩:=a;simp only at hspot;subst hspot;refine⟨b,o,rfl,id,by simpa[Addr.add] using hblk,fun i x hxi=>?_⟩;obtain⟨us,q1,q2,_⟩:=hx i x hxi;refine⟨us,q2,?_⟩;rw[add_plain] at q1;have:=ahI q1 rfl;rw[hsz] at this;exact this
     ·obtain⟨i,hi,rfl⟩:=cS.1 hxm;obtain⟨us,_,_,g⟩:=hx i _ (cF hi);exact g
  ·-- struct
   rename_i fs hu;rw[hu] at e;simp only[cH] at h;obtain⟨h1,_,h2⟩:=h;have hsz:P.cellsOf t=τ.size:=cR h1;simp only at e
   split at e<;>try (cases e; done)
   rename_i hlen
   cases hm:fs.toList.mapM (fun f=>DataW.trod enc P w 0 sp held fuel f.type ((cs.drop f.offset).take (P.cellsOf f.type))) with
   |none=>rw[hm] at e; cases e
   |some xs =>
    have:=B τ 0 fs.toList fuel cs h2 (Rl hm) (by omega);simpa using this
  ·cases h
def Zk {n:Nat} (A:abw enc P w sp held n) (B:JV enc P w sp held n):JV enc P w sp held (n+1):=by
 intro τ off fs fuel cs h hf hlen;rcases fs with _|⟨f,_|⟨g,fs⟩⟩
 ·simp[fieldsAre] at h
 ·unfold fieldsAre at h;simp only[Bool.and_eq_true] at h;obtain⟨h1,h2,h3⟩:=h;obtain⟨⟨d,ps⟩,hy⟩:=hf f (by simp);rw[Nat.eq_of_beq_eq_true h1,Nat.eq_of_beq_eq_true h2,List.take_of_length_le (by rw[List.length_drop]; omega)] at hy;exact A τ f.type fuel _ d ps h3 hy
 ·cases τ<;>try (simp[fieldsAre] at h; done)
  rename_i a b;unfold fieldsAre at h;simp only[Bool.and_eq_true] at h;obtain⟨h1,h2,h3,h4⟩:=h;obtain⟨⟨d,ps⟩,hy⟩:=hf f (by simp);rw[Nat.eq_of_beq_eq_true h1,Nat.eq_of_beq_eq_true h2] at hy;obtain⟨x,q1,q2⟩:=A a f.type fuel _ d ps h3 hy;simp only[Ty.size] at hlen;obtain⟨y,q3,q4⟩:=B b (off+a.size) (g::fs) fuel cs h4 (fun f' hf'=>hf f' (by simp[hf'])) (by omega);refine⟨(show Val (.pair a b) from(x,y)),⟨_,_,?_,q1,q3⟩,q2,q4⟩;rw[←List.drop_drop,List.take_append_drop]
def xw:∀n,abw enc P w sp held n∧JV enc P w sp held n
 |0=>⟨fun τ t fuel cs d ps h _=>by simp[agp] at h,fun τ off fs fuel cs h _ _=>by simp[fieldsAre] at h⟩
 |n+1=>⟨adn (xw n).1 (xw n).2,Zk (xw n).1 (xw n).2⟩
def Z3 {n:Nat} {τ:Ty} {t:TypeId} {v:Value} {d:DataW H} {ps:List MemPlace} {r:Reach} {base:Nat} (ht:agp P n τ t=true) (h:DataW.Trod enc P w 0 sp held t v d ps) (hv:Value.okWide P w r base t v):∃x:Val τ,kY w ajo τ x v∧Rng τ x:=by
 obtain⟨fuel,hf⟩:=h;obtain⟨x,h1,h2⟩:=(xw n).1 τ t fuel _ d ps ht hf;refine⟨x,⟨_,h1,?_⟩,h2⟩
 cases n with
 |zero=>simp[agp] at ht
 |succ n =>
  unfold agp at ht;unfold Value.okWide at hv
  split at ht
  ·rename_i hu;rw[hu] at hv
   cases τ<;>try (cases ht; done)
   simp only[Cell.okWide,hu] at hv
   cases v<;>simp_all[Cell.ok,Value.cells,xr,Ty.isAgg]
  ·rename_i k hu;rw[hu] at hv
   cases τ<;>try (cases ht; done)
   simp only[Cell.okWide,hu] at hv
   cases v<;>simp_all[Cell.ok,Value.cells,xr,Ty.isAgg]
  ·rename_i hu;rw[hu] at hv
   cases τ<;>try (cases ht; done)
   simp only[Cell.okWide,hu] at hv
   cases v<;>simp_all[Cell.ok,Value.cells,xr,Ty.isAgg]
  ·rename_i el hu;rw[hu] at hv
   cases τ<;>try (cases ht; done)
   simp only[Cell.okWide,hu] at hv
   cases v<;>simp_all[Cell.ok,Value.cells,xr,Ty.isAgg]
  ·rename_i fs hu;rw[hu] at hv;obtain⟨cs,rfl,_,_⟩:=hv;simp only[cH] at ht;have hagg:τ.isAgg=true:=ht.2.1;simp[xr,hagg,Value.cells]
  ·cases ht
def AF (P:Program):List Ty→List TypeId→Bool
 |[],[]=>true
 |τ::l,t::ts=>agp P 40 τ t&&AF P l ts
 |_,_=>false
def Z4 {r:Reach} {base:Nat}:∀(l:List Ty) (τ:Ty) (t:TypeId) (ts:List TypeId) (v:Value) (vs:List Value) (ds:List (DataW H)) (ps:List MemPlace),AF P (τ::l) (t::ts)=true→DataW.TrodAll enc P w 0 sp held (t::ts) (v::vs) ds ps →
 (∀(j:Nat) t' v',(t::ts)[j]?=some t'→(v::vs)[j]?=some v'→Value.okWide P w r base t' v')→∃x:Val (tys τ l),AT w ajo l τ x (v::vs)∧Rng (tys τ l) x
 |l,τ,t,ts,v,vs,[],ps,_,h,_=>by cases h
 |[],τ,t,ts,v,vs,d::ds,ps,hs,h,hv=>by
  obtain⟨p,q,h1,h2,_⟩:=h;simp only[AF,cH] at hs
  have:ts=[]:=by cases ts with|nil=>rfl|cons=>simp[AF] at hs
  subst this
  have hvs:vs=[]:=by cases vs with|nil=>rfl|cons=>exact h2.elim
  subst hvs;obtain⟨x,g1,g2⟩:=Z3 hs.1 h1 (hv 0 t v rfl rfl);exact⟨x,⟨v,rfl,g1⟩,g2⟩
 |u::l,τ,t,ts,v,vs,d::ds,ps,hs,h,hv=>by
  obtain⟨p,q,h1,h2,_⟩:=h;simp only[AF,cH] at hs;obtain⟨x,g1,g2⟩:=Z3 hs.1 h1 (hv 0 t v rfl rfl);rcases ts with _|⟨t2,ts⟩
  ·simp[AF] at hs
  ·rcases vs with _|⟨v2,vs⟩
   ·exact h2.elim
   ·obtain⟨y,g3,g4⟩:=Z4 l u t2 ts v2 vs ds q hs.2 h2 fun j t' v' a b=>hv (j+1) t' v' (by simpa using a) (by simpa using b);exact⟨(show Val (.pair τ (tys u l)) from(x,y)),⟨v,v2::vs,rfl,g1,g3⟩,g2,g4⟩
def agA {r:Reach} {base:Nat} {l:List Ty} {ts:List TypeId} {vs:List Value} {ds:List (DataW H)} {ps:List MemPlace} (hs:AF P l ts=true) (h:DataW.TrodAll enc P w 0 sp held ts vs ds ps)
 (hv:∀(j:Nat) t' v',ts[j]?=some t'→vs[j]?=some v'→Value.okWide P w r base t' v'):∃x:Val (tyL l),AL w ajo l x vs∧Rng (tyL l) x:=by
 rcases l with _|⟨τ,l⟩
 ·have:ts=[]:=by cases ts with|nil=>rfl|cons=>simp[AF] at hs
  subst this
  have hvs:vs=[]:=by cases vs with|nil=>rfl|cons=>cases ds<;>exact h.elim
  exact⟨(show Val .unit from()),hvs,trivial⟩
 ·rcases ts with _|⟨t,ts⟩
  ·simp[AF] at hs
  ·rcases vs with _|⟨v,vs⟩
   ·cases ds<;>exact h.elim
   ·exact Z4 l τ t ts v vs ds ps hs h hv
def C2 (hl:laidOutB P=true) {W W':World} (hb:Below W.heap.size W W'):∀{ts:List TypeId} {vs:List Value} {ds:List (DataW H)} {ps:List MemPlace},(ts.all fun t=>P.readableRec t&&decide (t<P.types.size))=true→DataW.TrodAll enc P W 0 (fun _=>true) true ts vs ds ps→(∀x∈ps,x.block<W.heap.size) →
 DataW.TrodAll enc P W' 0 (fun b=>decide (b<W.heap.size)) true ts vs ds ps
 |[],[],[],ps,_,h,_=>h
 |t::ts,v::vs,d::ds,ps,hr,h,hlt=>by
  obtain⟨p,q,h1,h2,rfl⟩:=h;simp only[fI,cH,decide_eq_true_eq] at hr;exact⟨p,q,Below.trod hl hr.1.1 hr.1.2 h1 hb (fun x hx=>hlt x (dD _ hx)),C2 hl hb (by simpa using hr.2) h2 (fun x hx=>hlt x (dC _ hx)),rfl⟩
 |[],[],_::_,_,_,h,_=>h.elim
 |[],_::_,_,_,_,h,_=>by cases ‹List (DataW H)›<;>exact h.elim
 |_::_,[],_,_,_,h,_=>by cases ‹List (DataW H)›<;>exact h.elim
 |_::_,_::_,[],_,_,h,_=>h.elim
def JY {W:World}:∀{ts:List TypeId} {vs:List Value} {ds:List (DataW H)} {ps:List MemPlace},DataW.TrodAll enc P W 0 sp held ts vs ds ps→ds.length=ts.length
 |[],[],[],_,_=>rfl
 |_::_,_::_,_::_,_,h=>by obtain⟨p,q,_,h2,_⟩:=h; simp[JY h2]
 |[],[],_::_,_,h=>h.elim
 |[],_::_,ds,_,h=>by cases ds<;>exact h.elim
 |_::_,[],ds,_,h=>by cases ds<;>exact h.elim
 |_::_,_::_,[],_,h=>h.elim
def law_lifted {C:Checked} {os:Os} {f:FuncId} {fn:Func} {s:ChangeSpec} {conds:List PathCond} {p:ã} {tb:TypeId} (own:ownKnob C.prog.godebug=none) (started:os.Started) (noInit:C.prog.inits.idxOf? f=none) (hfn:C.prog.funcs[f]?=some fn)
 (witness:∃(w:World) (tape:Tape) (i:Input),w.os=os∧(w.forCall tape i).Shaped C.prog∧i.vars=[]∧Input.okWide C.prog (w.forCall tape i) .any w.heap.size f i ∧
  s.pre6 enc C.prog fn conds false (w.forCall tape i).memory i.args∧({}:Assume).holds C.prog (lone (Frame.enter C.prog f i.args .normal) [] (w.forCall tape i)))
 (hp:ki C.prog f p) (hrs:p.rs=[.bool]) (law:∀x:Val (tyL p.ts),Rng (tyL p.ts) x→p.F x=some (hrs▸(show Val (tyL [.bool]) from true))) (htys:AF C.prog p.ts fn.params.toList=true) (hsv:s.vars=[])
 (hs:∀ds:List (DataW H),ds.length=fn.params.toList.length→s.fn H ds={results:=[.lit (.bool true)],args:=ds}) (hl:laidOutB C.prog=true) (hrd:(fn.params.toList.all fun t=>C.prog.readableRec t&&decide (t<C.prog.types.size))=true)
 (hres:fn.resultTypes=#[tb]) (hbool:C.prog.underlying tb=some .bool) :
 ReturnsInHanded {} C os f .any (s.pre6 enc C.prog fn conds false) (s.post enc C.prog fn false true false false):=by
 refine returnsInHanded_of_change own started noInit hfn witness ?_;intro W base args ds gs before hval hW _ _;have hW':=hW;obtain⟨pa,q,hA,hV,rfl,_,_⟩:=hW
 have hgs:gs=[]∧q=[]:=by
  rw[hsv] at hV
  cases gs with
  |nil=>exact⟨rfl,hV⟩
  |cons=>exact hV.elim
 obtain⟨rfl,rfl⟩:=hgs;obtain⟨x,h1,h2⟩:=agA htys hA (r:=.any) (base:=base) fun j t v ht hv=>hval j t v (by simpa using ht) (by simpa using hv);simp only[dh] at hW'
 have hlt:∀x∈pa,x.block<W.heap.size:=fun x hx=>by simpa using hW'.lt x hx
 refine(callsIn_wide (n:=0)).1 ((hp ajo x _ (law x h2) W args.toList (fun _ h=>h.elim) h1).2.mono fun e W' hw=>?_);obtain⟨u,rfl,k1,k2,k3,k4,k5,k6⟩:=hw
 have hu:u=.bool true:=by
  obtain⟨ts,rs,F⟩:=p;dsimp only at hrs k1;subst hrs;obtain⟨us,c1,rfl⟩:=k1;have:us=[.bool true]:=c1;rw[this]; rfl
 subst hu;have hb:Below W.heap.size W W':=⟨k4,k5,k6,k3,k2⟩
 have hds:s.fn H (ds++[])={results:=[.lit (.bool true)],args:=ds}:=by rw[dh]; exact hs ds (JY hA)
 refine⟨_,rfl,ds,[],pa,[],pa,[],hW',?_,?_,?_,hb.frame _,fun h=>by cases h⟩
 ·rw[hds,hres];exact trodAll_mk1 (shut_bool hbool _)
 ·rw[hds];exact C2 hl hb hrd hA hlt
 ·rw[hds,hsv]; rfl
end
def joined_of {P:Program} {f:FuncId} {fn:Func} {s:ChangeSpec} {c:OpenClaim} (h1:c.wf (OpenSpec.ofChange s)=true) (h2:laidOutB P=true) (h3:mapsRowed P=true) (h4:fn.params.all (P.readableRec ·)=true) (h5:namedTie P c.named s.vars=true)
 (h6:(c.stops==[])=true) (h7:(P.stops==[])=true) (h8:(c.knobs==[])=true) (h9:(P.stopKnobs==[])=true) (h10:(c.inPlace==P.inPlace f)=true) (h11:(c.unfollowed==P.unfollowed f)=true) (h12:(c.recurses==P.recurses f)=true) (h13:(c.named==P.varsNamed f)=true)
 (h14:(c.maps==(fn.params.toList++s.plain.varTypes P).any (P.mapsRec ·))=true) (h15:(c.ifaces==(fn.params.toList++s.plain.varTypes P).any (P.ifacesRec ·))=true) (h16:(c.mapsOut==P.mapsAmong fn.resultTypes.toList)=true)
 (h17:(c.loops==(fn.params.toList++s.plain.varTypes P).any (P.loopsFrom ·))=true) (h18:(c.wideKeys==(fn.params.toList++s.plain.varTypes P++fn.resultTypes.toList).any (P.wideKeysFrom ·))=true)
 (h19:s.vars.all (P.varReadable ·)=true) (h20:fn.resultTypes.all (fun t=>P.readableRec t&&decide (t<P.types.size))=true) (h21:(c.ifacesOut==fn.resultTypes.toList.any (P.ifacesRec ·))=true) (h22:(c.loopsOut==fn.resultTypes.toList.any (P.loopsFrom ·))=true)
 (h23:(c.plainKeys==P.plainKeys)=true) (h24:c.shortTexts.isNone=true) (h25:P.stopsHeard=true) (h26:P.mayEnter=true) (h27:(c.lifted==P.liftsFinal)=true) (h28:(P.make==some c.make)=true)
 (h29:(c.kinds==(if c.domain.isEmpty then[] else fn.params.toList.map fun t=>match P.underlying t with|some (.int k)=>some k|_=>none))=true) (h30:(c.pinned==c.pinnedBy)=true)
 (h31:(c.veiled==(fn.params.toList++s.plain.varTypes P++fn.resultTypes.toList).any (P.veiledRec ·))=true) (h32:c.veiledFits P fn.params.toList (fn.params.toList++s.plain.varTypes P++fn.resultTypes.toList)=true):joinedFacts P f fn s c=true:=by
 unfold joinedFacts;simp only[h1,h2,h3,h4,h5,h6,h7,h8,h9,h10,h11,h12,h13,h14,h15,h16,h17,h18,h19,h20,h21,h22,h23,h24,h25,h26,h27,h28,h30,h31,h32,Bool.and_true];exact h29
end Go.Am
end
