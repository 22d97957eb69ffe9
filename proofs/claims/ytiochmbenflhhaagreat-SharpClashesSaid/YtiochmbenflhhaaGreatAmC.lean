/- lemmas -/
import Derived.Test.YtiochmbenflhhaaGreatAmB
import Derived.ProofKit
import Derived.OpenShut
import Derived.WalkKit
import Derived.SizedLaws
import Derived.Carry
set_option linter.all false
set_option linter.unusedSectionVars false
set_option linter.unusedVariables false
set_option linter.unusedSimpArgs false
noncomputable section
namespace Go.Am
variable [ô]
section
variable {ρ:Type} {P:Program} {h h2:List Blk} {t t2:List AV}
def afT {ty:Ty} {a:AV} (hs:ol h h2 a):apa h2 ty a=apa h ty a:=by
 have hsn:aiB h2 a=aiB h a:=OD hs.one
 cases ty with
 |ptr u =>
  cases a with
  |box id off =>
   cases off with
   |zero =>
    have h1:lkB h2 id=lkB h id:=hs.one id (by simp[refs1,ĭ]);simp only[apa,h1]
    cases hl:lkB h id with
    |cells cs =>
     simp only
     have:cs.map (þ h2)=cs.map (þ h):=fp fun c hc=>pw fun i hi=>hs i (by
      simp only[refs2,dh,dC]
      exact .inr ⟨id,by simp[refs1,ĭ],by rw[hl]; exact⟨c,hc,hi⟩⟩)
     rw[this]
    |_=>rfl
   |succ n=>rfl
  |eptr t' x off=>cases off<;>rfl
  |_=>rfl
 |_=>cases a with
  |dp id g =>
   have h1:lkB h2 id=lkB h id:=hs.one id (by simp[refs1,ĭ]);simp only[apa,h1]
  |_=>simp only[apa,hsn]
def XH:∀{l:List Ty} {ty:Ty} {as:List AV},(∀a∈as,ol h h2 a)→abD h2 l ty as=abD h l ty as
 |[],ty,[],_=>rfl
 |[],ty,[a],hs=>by simp only[abD]; exact afT (hs a (by simp))
 |[],ty,_::_::_,_=>rfl
 |u::l,ty,[],_=>rfl
 |u::l,ty,a::as,hs=>by
  simp only[abD];rw[afT (hs a (by simp)),XH fun b hb=>hs b (by simp[hb])]
def XI {l:List Ty} {as:List AV} (hs:∀a∈as,ol h h2 a):Iz h2 l as=Iz h l as:=by
 cases l with
 |nil=>rfl
 |cons ty l=>exact XH hs
def ahI {E:Env ρ} {o:Op} (hx:∀x∈o.operands.toList,ev t2 x=ev t x):SM E t2 o=SM E t o:=by
 unfold SM
 split
 ·rename_i ty n ps;rw[dO];simp only[dN];refine forall_congr' fun p=>forall_congr' fun hm=>?_;rw[hx p.2 (by simpa[Op.operands] using⟨p.1,by simpa using hm⟩)]
 ·rename_i s args tys;rw[hx (.tmp s) (by simp[Op.operands,Call.operands])]
 ·rfl
def SL {E:Env ρ} {o:Op} (hx:∀x∈o.operands.toList,ev t2 x=ev t x) (hs:1≤cls E o→∀x∈o.operands.toList,ol h h2 (ev t x)) :
 mi E {t:=t2,h:=h2} o=mi E {t:=t,h:=h} o:=by
 unfold mi
 split
 ·rename_i hc;have hc1:1≤cls E o:=fV hc
  have h1:(o.operands.toList.all fun x=>(refs2 h2 (ev t2 x)).all fun id=>!ane (lkB h2 id))=o.operands.toList.all fun x=>(refs2 h (ev t x)).all fun id=>!ane (lkB h id):=by
   rw[dO];simp only[dN];refine forall_congr' fun x=>forall_congr' fun hm=>?_;rw[hx x hm,(hs hc1 x hm).refs]
   exact forall_congr' fun id=>forall_congr' fun hi=>by rw[hs hc1 x hm id hi]
  exact congr (congrArg and h1) (ahI hx)
 ·rfl
def ph {E:Env ρ} {o:Op} (hc:1≤cls E o) {id:Nat}:id∈BW E {t:=t,h:=h} o↔∃x∈o.operands.toList,id∈refs2 h (ev t x):=by
 unfold BW;have:Nat.ble 1 (cls E o)=true:=Nat.ble_eq_true_of_le hc;simp only[this,List.mem_flatMap]
def HK {E:Env ρ} {o:Op} (hc:cls E o=0) {S:St}:BW E S o=[]:=by
 unfold BW; rw[hc]
def Loc (E:Env ρ) (o:Op) (nid:Nat) (t:List AV) (h:List Blk) (t2:List AV) (h2:List Blk) (z z2:(AV→St→Option ρ)→Option ρ):Prop :=
 ∃φ:Option (AV×List (Nat×Blk)),(∀r,φ=some r→∀p∈r.2,(p.1=nid∧Ď E.clone o=true)∨(cls E o=2∧p.1∈BW E {t:=t,h:=h} o)) ∧
  (∀K,z K=φ.bind fun r=>K r.1 {t:=t,h:=aps r.2 h})∧∀K,z2 K=φ.bind fun r=>K r.1 {t:=t2,h:=aps r.2 h2}
def Loc.no {E:Env ρ} {o:Op} {nid:Nat} {z z2:(AV→St→Option ρ)→Option ρ} (h1:∀K,z K=none) (h2':∀K,z2 K=none):Loc E o nid t h t2 h2 z z2 :=
 ⟨none,by simp,fun K=>by rw[h1]; rfl,fun K=>by rw[h2']; rfl⟩
def anR {σ σ2:Type} {R:Option σ→Option σ2→Prop} {g nid:Nat} {fz:Bool} {x:AV} {K:AV→St→Option σ} {K2:AV→St→Option σ2} (h0:R none none) (hs:∀id∈refs1 x,lkB h2 id=lkB h id)
 (hK:∀v ef,R (K v {t:=t,h:=ap nid ef h}) (K2 v {t:=t2,h:=ap nid ef h2})):R (Au P g fz {t:=t,h:=h} nid x K) (Au P g fz {t:=t2,h:=h2} nid x K2):=by
 simp only[Au,Lp hs]
 (repeat' split)<;>first|exact h0|exact hK _ none|exact hK _ (some _)
def efU (nid:Nat):Option Blk→List (Nat×Blk)
 |none=>[]
 |some B=>[(nid,B)]
def ajQ {nid:Nat} {ef:Option Blk}:ap nid ef h=aps (efU nid ef) h:=by cases ef<;>rfl
def arV {E:Env ρ} {call:List Nat→Bool→Nat→List AV→List Blk→(AV→List Blk→Option ρ)→Option ρ} {fid:Nat} {path:List Nat} {nid:Nat} {o:Oper}
 (hpe:aoY E call) (hcl:cls E o.op≤2) (hlen:h2.length=h.length) (hx:∀x∈o.op.operands.toList,ev t2 x=ev t x) (hs:1≤cls E o.op→∀x∈o.op.operands.toList,ol h h2 (ev t x)) :
 Loc E o.op nid t h t2 h2 (g9 E call fid path true {t:=t,h:=h} nid o) (g9 E call fid path true {t:=t2,h:=h2} nid o):=by
 have hwf:=SL hx hs
 cases hw:mi E {t:=t,h:=h} o.op with
 |false=>exact .no (fun K=>by simp[g9,hw]) (fun K=>by simp[g9,hwf,hw])
 |true =>
  rw[hw] at hwf
  have plain:(∀f args tys,o.op≠.call ⟨.value f,args,tys⟩)→Loc E o.op nid t h t2 h2 (g9 E call fid path true {t:=t,h:=h} nid o) (g9 E call fid path true {t:=t2,h:=h2} nid o):=by
   intro hno
   have hr:∀S:St,mi E S o.op=true→∀K,g9 E call fid path true S nid o K=opK E.P S nid (abg E true fid o) o.op K:=fun S hS K=>by
    unfold g9;simp only[hS,Bool.not_true,Bool.and_false,Bool.false_and]
   have hcall:Xe o.op=false:=by
    cases ho:o.op<;>try rfl
    rename_i c;obtain⟨f,args,tys⟩:=c
    cases f<;>first|rfl|exact absurd ho (hno _ _ _)
   have fin:(∃φ:Option (AV×List (Nat×Blk)),(∀r,φ=some r→∀p∈r.2,(p.1=nid∧Ď E.clone o.op=true)∨(cls E o.op=2∧p.1∈BW E {t:=t,h:=h} o.op)) ∧
    opK E.P {t:=t,h:=h} nid (abg E true fid o) o.op (fun v S=>some (v,S))=φ.map (fun r=>(r.1,({t:=t,h:=aps r.2 h}:St)))∧opK E.P {t:=t2,h:=h2} nid (abg E true fid o) o.op (fun v S=>some (v,S))=φ.map fun r=>(r.1,({t:=t2,h:=aps r.2 h2}:St))) →
    Loc E o.op nid t h t2 h2 (g9 E call fid path true {t:=t,h:=h} nid o) (g9 E call fid path true {t:=t2,h:=h2} nid o):=by
    rintro⟨φ,h1,h2',h3⟩;refine⟨φ,h1,fun K=>?_,fun K=>?_⟩
    ·rw[hr _ hw,Yk]; unfold opR; rw[h2']; cases φ<;>rfl
    ·rw[hr _ hwf,Yk]; unfold opR; rw[h3]; cases φ<;>rfl
   apply fin
   by_cases h2c:cls E o.op=2
   ·refine ar9 (P:=E.P) (E:=E) (o:=o.op) (nid:=nid) (σ:=AV×St) (σ2:=AV×St) (K:=fun v S=>some (v,S)) (K2:=fun v S=>some (v,S))
     (R:=fun x y=>∃φ:Option (AV×List (Nat×Blk)),(∀r,φ=some r→∀p∈r.2,(p.1=nid∧Ď E.clone o.op=true)∨(cls E o.op=2∧p.1∈BW E {t:=t,h:=h} o.op))∧x=φ.map (fun r=>(r.1,({t:=t,h:=aps r.2 h}:St)))∧y=φ.map fun r=>(r.1,({t:=t2,h:=aps r.2 h2}:St)))
     ⟨none,by simp,rfl,rfl⟩ h2c hcall hlen hx (fun x hm=>(hs (by omega) x hm).one) fun v ups hu=>⟨some (v,ups),fun r hr' p hp=>?_,rfl,rfl⟩
    cases hr';rcases hu p hp with hu|⟨x,hm,hi⟩
    ·exact .inl hu
    ·exact .inr ⟨h2c,(ph (by omega)).2 ⟨x,hm,by simp only[refs2,dh]; exact .inl hi⟩⟩
   ·have hea:abg E true fid o=false:=by
     unfold abg
     cases ho:o.op<;>first|rfl|(exfalso; apply h2c; rw[ho]; rfl)
    rw[hea]
    have hb:∀ty n ps,o.op=.buildSlice ty n ps→ps.toList.all (fun p=>!ve (ev t p.2))=true:=fun ty n ps ho=>by
     have h1:=hw;unfold mi at h1;rw[ho] at h1;have hb1:Nat.ble 1 (cls E (.buildSlice ty n ps))=true:=rfl;simp only[hb1,Bool.and_eq_true,SM] at h1;exact h1.2
    refine ari (P:=E.P) (E:=E) (o:=o.op) (nid:=nid) (σ:=AV×St) (σ2:=AV×St) (K:=fun v S=>some (v,S)) (K2:=fun v S=>some (v,S))
     (R:=fun x y=>∃φ:Option (AV×List (Nat×Blk)),(∀r,φ=some r→∀p∈r.2,(p.1=nid∧Ď E.clone o.op=true)∨(cls E o.op=2∧p.1∈BW E {t:=t,h:=h} o.op))∧x=φ.map (fun r=>(r.1,({t:=t,h:=aps r.2 h}:St)))∧y=φ.map fun r=>(r.1,({t:=t2,h:=aps r.2 h2}:St)))
     ⟨none,by simp,rfl,rfl⟩ (by omega) hcall hx (fun h1 x hm=>(hs (by omega) x hm).one) hb fun v ef hef=>⟨some (v,efU nid ef),fun r hr' p hp=>?_,by rw[ajQ]; rfl,by rw[ajQ]; rfl⟩
    cases hr'
    cases ef with
    |none=>cases hp
    |some B =>
     simp only[efU,dk] at hp;subst hp;exact .inl ⟨rfl,hef rfl⟩
  cases ho:o.op with
  |call c =>
   obtain⟨f,args,tys⟩:=c
   cases f with
   |value f =>
    cases f with
    |func g =>
     rw[ho] at hx hs hcl;have hxa:∀x∈args.toList,ev t2 x=ev t x:=fun x hm=>hx x (by simp[Op.operands,Call.operands]; exact .inr (by simpa using hm))
     have hmem:∀x∈args.toList,x∈(Op.call ⟨.value (.func g),args,tys⟩).operands.toList:=fun x hm=>by simp[Op.operands,Call.operands]; exact .inr (by simpa using hm)
     have he:=Pd hxa
     cases hc:E.clone g with
     |true =>
      have hcls:cls E (.call ⟨.value (.func g),args,tys⟩)=1:=by simp[cls,hc]
      have hr:∀(S:St),mi E S o.op=true→∀K,g9 E call fid path true S nid o K=match args.toList with
       |[x]=>Au E.P g (E.eat fid (o.dst.getD 0)) S nid (ev S.t x) K
       |_=>none:=fun S hS K=>by
       unfold g9;simp only[hS,Bool.not_true,Bool.and_false];rw[ho];simp only[ev,hc,akH,Bool.and_self];rfl
      generalize hl:args.toList=l at hr he hxa hmem;rcases l with _|⟨x,_|⟨y,l⟩⟩
      ·exact .no (fun K=>hr _ hw K) (fun K=>hr _ hwf K)
      ·have hsx:=(hs (by omega) x (hmem x (by simp))).one;have e1:=hxa x (by simp)
       obtain⟨φ,h1,h2',h3⟩:=anR (P:=E.P) (g:=g) (fz:=E.eat fid (o.dst.getD 0)) (nid:=nid) (t:=t) (t2:=t2) (σ:=AV×St) (σ2:=AV×St) (K:=fun v S=>some (v,S)) (K2:=fun v S=>some (v,S))
        (R:=fun x y=>∃φ:Option (AV×List (Nat×Blk)),(∀r,φ=some r→∀p∈r.2,p.1=nid)∧x=φ.map (fun r=>(r.1,({t:=t,h:=aps r.2 h}:St)))∧y=φ.map fun r=>(r.1,{t:=t2,h:=aps r.2 h2}))
        ⟨none,by simp,rfl,rfl⟩ hsx fun v ef=>⟨some (v,efU nid ef),fun r hr' p hp=>by
         cases hr'
         cases ef with
         |none=>cases hp
         |some B=>simp only[efU,dk] at hp; rw[hp],by rw[ajQ]; rfl,by rw[ajQ]; rfl⟩
       refine⟨φ,fun r hr' p hp=>.inl ⟨h1 r hr' p hp,by simpa[Ď] using hc⟩,fun K=>?_,fun K=>?_⟩
       ·rw[hr _ hw];simp only;rw[K6,h2']
        cases φ<;>rfl
       ·rw[hr _ hwf];simp only[e1];rw[K6,h3]
        cases φ<;>rfl
      ·exact .no (fun K=>hr _ hw K) (fun K=>hr _ hwf K)
     |false =>
      have hr:∀(S:St),mi E S o.op=true→∀K,g9 E call fid path true S nid o K=call path true g (args.toList.map (ev S.t)) S.h fun v h=>K v {t:=S.t,h:=h}:=fun S hS K=>by
       unfold g9;simp only[hS,Bool.not_true,Bool.and_false];rw[ho];simp only[ev,hc,akH,Bool.false_and,List.nil_append,List.append_nil]
      rcases hpe with hpe|⟨hpe,hse,hce⟩
      ·exact .no (fun K=>by rw[hr _ hw]; exact hpe _ _ _ _ _ _) (fun K=>by rw[hr _ hwf]; exact hpe _ _ _ _ _ _)
      cases hp:E.pure g with
      |none =>
       have h1c:1≤cls E (.call ⟨.value (.func g),args,tys⟩):=by simp only[cls,hc,hp]; cases E.sort g<;>cases E.compact g<;>simp
       have row:∀(f:List Blk→AV→(AV→List Blk→Option ρ)→Option ρ),(∀S K,mi E S o.op=true→g9 E call fid path true S nid o K=match args.toList.map (ev S.t) with|[x]=>f S.h x fun v h=>K v {t:=S.t,h:=h}|_=>none)→cls E (.call ⟨.value (.func g),args,tys⟩)=2 →
        (∀x,(∀id∈refs1 x,lkB h2 id=lkB h id)→∃φ:Option (AV×List (Nat×Blk)),(∀r,φ=some r→∀p∈r.2,p.1∈refs1 x)∧(∀K,f h x K=φ.bind fun r=>K r.1 (aps r.2 h))∧∀K,f h2 x K=φ.bind fun r=>K r.1 (aps r.2 h2)) →
        Loc E (.call ⟨.value (.func g),args,tys⟩) nid t h t2 h2 (g9 E call fid path true {t:=t,h:=h} nid o) (g9 E call fid path true {t:=t2,h:=h2} nid o):=by
        intro f hf h2c hloc;generalize hl:args.toList=l at hf he hmem;rcases l with _|⟨x,_|⟨y,l⟩⟩
        ·exact .no (fun K=>hf _ K hw) (fun K=>hf _ K hwf)
        ·obtain⟨φ,q1,q2,q3⟩:=hloc (ev t x) (hs h1c x (hmem x (by simp))).one;refine⟨φ,fun r hr' p hp=>.inr ⟨h2c,(ph h1c).2 ⟨x,hmem x (by simp),by simp only[refs2,dh]; exact .inl (q1 r hr' p hp)⟩⟩,fun K=>?_,fun K=>?_⟩
         ·rw[hf _ K hw];exact q2 _
         ·rw[hf _ K hwf];simp only[he];exact q3 _
        ·exact .no (fun K=>hf _ K hw) (fun K=>hf _ K hwf)
       cases hso:E.sort g with
       |true =>
        refine row XS (fun S K hS=>(hr S hS K).trans (hse g hp hso path true _ S.h _)) (by simp[cls,hc,hp,hso]) fun x hx1=>?_;unfold XS
        cases x with
        |own id g =>
         have e3:=hx1 id (by simp[refs1,ĭ]);simp only[e3]
         cases lkB h id with
         |row ty g' fz xs =>
          cases fz<;>simp only
          ·split
           ·split
            ·split
             ·exact⟨some (_,[(id,_)]),by simp[refs1,ĭ],fun K=>rfl,fun K=>rfl⟩
             ·exact⟨none,by simp,fun K=>rfl,fun K=>rfl⟩
            ·exact⟨none,by simp,fun K=>rfl,fun K=>rfl⟩
           ·exact⟨none,by simp,fun K=>rfl,fun K=>rfl⟩
          ·exact⟨none,by simp,fun K=>rfl,fun K=>rfl⟩
         |_=>exact⟨none,by simp,fun K=>rfl,fun K=>rfl⟩
        |nils=>exact⟨some (_,[]),by simp,fun K=>rfl,fun K=>rfl⟩
        |_=>exact⟨none,by simp,fun K=>rfl,fun K=>rfl⟩
       |false =>
        cases hco:E.compact g with
        |true =>
         refine row pn (fun S K hS=>(hr S hS K).trans (hce g hp hso hco path true _ S.h _)) (by simp[cls,hc,hp,hso,hco]) fun x hx1=>?_;unfold pn
         cases x with
         |own id g =>
          have e3:=hx1 id (by simp[refs1,ĭ]);simp only[e3]
          cases lkB h id with
          |row ty g' fz xs =>
           cases fz<;>simp only
           ·split
            ·split
             ·split
              ·exact⟨some (_,[(id,_)]),by simp[refs1,ĭ],fun K=>rfl,fun K=>rfl⟩
              ·exact⟨none,by simp,fun K=>rfl,fun K=>rfl⟩
             ·exact⟨none,by simp,fun K=>rfl,fun K=>rfl⟩
            ·exact⟨none,by simp,fun K=>rfl,fun K=>rfl⟩
           ·exact⟨none,by simp,fun K=>rfl,fun K=>rfl⟩
          |_=>exact⟨none,by simp,fun K=>rfl,fun K=>rfl⟩
         |nils=>exact⟨some (_,[]),by simp,fun K=>rfl,fun K=>rfl⟩
         |_=>exact⟨none,by simp,fun K=>rfl,fun K=>rfl⟩
        |false=>simp[cls,hc,hp,hso,hco] at hcl
      |some p =>
       have h1c:1≤cls E (.call ⟨.value (.func g),args,tys⟩):=by simp only[cls,hc,hp]; cases E.fz g<;>simp
       have hsa:∀a∈args.toList.map (ev t),ol h h2 a:=fun a ha=>by
        obtain⟨x,hm,rfl⟩:=dP.1 ha;exact hs h1c x (hmem x hm)
       obtain⟨u,f1,f2,f3⟩:=aa7 (cs:=(args.toList.map (ev t)).flatMap ml) hlen fun c hcm id hi=>by
        obtain⟨a,ha,hca⟩:=dC.1 hcm;refine(hsa a ha).one id ?_
        cases a<;>first
         |(simp only[ml,dk] at hca; subst hca; exact hi)
         |(simp only[ml,dk] at hca; subst hca; cases hi; done)
         |exact dC.2 ⟨c,hca,hi⟩
       have f3':∀q∈u,∃x∈args.toList,q.1∈refs2 h (ev t x):=fun q hq=>by
        obtain⟨c,hcm,hi⟩:=f3 q hq;obtain⟨a,ha,hca⟩:=dC.1 hcm;obtain⟨x,hm,rfl⟩:=dP.1 ha;refine⟨x,hm,?_⟩;simp only[refs2,dh];left;generalize ev t x=a at hca
        cases a<;>first
         |(simp only[ml,dk] at hca; subst hca; exact hi)
         |(simp only[ml,dk] at hca; subst hca; cases hi; done)
         |exact dC.2 ⟨c,hca,hi⟩
       have hpk:∀(b:Bool) (h':List Blk),Iz h' p.ts (args.toList.map (ev t))=Iz h p.ts (args.toList.map (ev t))→A6 h' ((args.toList.map (ev t)).flatMap ml)=aps u h'→∀(K:AV→List Blk→Option ρ),
        X3 b p h' (args.toList.map (ev t)) K=(match Iz h p.ts (args.toList.map (ev t)) with
        |some x=>(p.F x).bind fun y=>match OL (af9 p.rs y) with
         |true=>some (af9 p.rs y,[])
         |false=>match (args.toList.map (ev t)).all (fun a=>!ve a) with
          |true=>some (af9 p.rs y,[])
          |false=>match b||!(args.toList.map (ev t)).all amE with
           |true=>none
           |false=>some (af9 p.rs y,u)
        |none=>none).bind fun r=>K r.1 (aps r.2 h'):=fun b h' ha hf K=>by
        unfold X3 Å;rw[ha,hf]
        cases Iz h p.ts (args.toList.map (ev t)) with
        |none=>rfl
        |some x =>
         simp only
         cases p.F x with
         |none=>rfl
         |some y =>
          simp only[eR]
          cases OL (af9 p.rs y) with
          |true=>rfl
          |false=>cases(args.toList.map (ev t)).all (fun a=>!ve a) with
           |true=>rfl
           |false=>cases b||!(args.toList.map (ev t)).all amE<;>rfl
       refine⟨_,?_,fun K=>(hr _ hw K).trans ((hpe g p hp path true _ h _).trans (hpk (true&&!E.fz g) h rfl f1 _)),fun K=>(hr _ hwf K).trans (by simp only[he]; exact(hpe g p hp path true _ h2 _).trans (hpk (true&&!E.fz g) h2 (XI hsa) f2 _))⟩;intro r hr1 q hq
       have hcase:r.2=[]∨(E.fz g=true∧r.2=u):=by
        cases hA:Iz h p.ts (args.toList.map (ev t)) with
        |none=>rw[hA] at hr1; cases hr1
        |some x =>
         rw[hA] at hr1;simp only at hr1
         cases hF:p.F x with
         |none=>rw[hF] at hr1; cases hr1
         |some y =>
          rw[hF] at hr1;simp only[eR] at hr1
          split at hr1
          ·cases hr1; exact .inl rfl
          ·split at hr1
           ·cases hr1; exact .inl rfl
           ·split at hr1
            ·cases hr1
            ·rename_i hb;cases hr1;simp only[dV,fI,fe] at hb;exact .inr ⟨hb.1,rfl⟩
       rcases hcase with hz|⟨hfz,hz⟩
       ·rw[hz] at hq; cases hq
       ·rw[hz] at hq;obtain⟨x,hm,hi⟩:=f3' q hq;exact .inr ⟨by simp[cls,hc,hp,hfz],(ph h1c).2 ⟨x,hmem x hm,hi⟩⟩
    |tmp s =>
     rw[ho] at hx hs hcl
     obtain⟨g,hg⟩:∃g,E.hint s=some g:=by
      cases hh:E.hint s with
      |none=>simp[cls,hh] at hcl
      |some g=>exact⟨g,rfl⟩
     have hpf:(E.pure g).isSome=true∧E.fz g=false:=by
      simp only[cls,hg] at hcl
      split at hcl
      ·rename_i hb; simpa using hb
      ·omega
     obtain⟨hpg,hfz⟩:=hpf;obtain⟨p,hp⟩:=gL.1 hpg
     have hcls:cls E (.call ⟨.value (.tmp s),args,tys⟩)=1:=by simp[cls,hg,hp,hfz]
     have hmem:∀x∈args.toList,x∈(Op.call ⟨.value (.tmp s),args,tys⟩).operands.toList:=fun x hm=>by simp[Op.operands,Call.operands]; exact .inr (by simpa using hm)
     have hms:Operand.tmp s∈(Op.call ⟨.value (.tmp s),args,tys⟩).operands.toList:=by simp[Op.operands,Call.operands]
     have he:=Pd fun x hm=>hx x (hmem x hm)
     have hnf:SM E t (.call ⟨.value (.tmp s),args,tys⟩)=true:=by
      have h1:=hw;unfold mi at h1;rw[ho] at h1
      have hb1:Nat.ble 1 (cls E (.call ⟨.value (.tmp s),args,tys⟩))=true:=by rw[hcls]; rfl
      simp only[hb1,cZ] at h1;exact h1.2
     simp only[SM,hg] at hnf
     split at hnf<;>try (cases hnf; done)
     rename_i g' fa fb hfn;simp only[cZ,dN] at hnf;obtain⟨hgg,hna,hnb⟩:=hnf;have hgg:g'=g:=dn hgg;subst hgg;have hfn2:=(hx _ hms).trans hfn
     have hr:∀(S:St),mi E S o.op=true→ev S.t (.tmp s)=.fn (.func g') fa fb→∀K,g9 E call fid path true S nid o K=call path true g' (fa++(args.toList.map (ev S.t)++fb)) S.h fun v h=>K v {t:=S.t,h:=h}:=fun S hS hSf K=>by
      unfold g9;simp only[hS,Bool.not_true,Bool.and_false];rw[ho];simp only[hSf,akH,Bool.and_false]
     rcases hpe with hpe|⟨hpe,hse,hce⟩
     ·exact .no (fun K=>by rw[hr _ hw hfn]; exact hpe _ _ _ _ _ _) (fun K=>by rw[hr _ hwf hfn2]; exact hpe _ _ _ _ _ _)
     have hcap:∀v,(v∈fa∨v∈fb)→asb v=true→ol h h2 v:=fun v hv hn id hi=>by
      refine hs (by omega) _ hms id ?_;rw[hfn]
      have e1:Go.Am.refs1 v=amh v:=by cases v<;>first|rfl|cases hn
      simp only[refs2,dh,dC,e1] at hi ⊢
      have hsub:∀i,i∈amh v→i∈Go.Am.refs1 (.fn (.func g') fa fb):=fun i hi=>by
       simp only[Go.Am.refs1,dh,dC];exact hv.imp (fun h=>⟨v,h,hi⟩) fun h=>⟨v,h,hi⟩
      rcases hi with hi|⟨i,hi,q⟩
      ·exact .inl (hsub _ hi)
      ·exact .inr ⟨i,hsub _ hi,q⟩
     have hsa:∀a∈fa++(args.toList.map (ev t)++fb),ol h h2 a:=fun a ha=>by
      rcases dh.1 ha with ha|ha
      ·exact hcap a (.inl ha) (hna a ha)
      ·rcases dh.1 ha with ha|ha
       ·obtain⟨x,hm,rfl⟩:=dP.1 ha;exact hs (by omega) x (hmem x hm)
       ·exact hcap a (.inr ha) (hnb a ha)
     have hpk:∀(h':List Blk),Iz h' p.ts (fa++(args.toList.map (ev t)++fb))=Iz h p.ts (fa++(args.toList.map (ev t)++fb))→∀(K:AV→List Blk→Option ρ),
      X3 (true&&!E.fz g') p h' (fa++(args.toList.map (ev t)++fb)) K=(match Iz h p.ts (fa++(args.toList.map (ev t)++fb)) with
      |some x=>(p.F x).bind fun y=>match OL (af9 p.rs y) with
       |true=>some (af9 p.rs y,([]:List (Nat×Blk)))
       |false=>match (fa++(args.toList.map (ev t)++fb)).all (fun a=>!ve a) with
        |true=>some (af9 p.rs y,[])
        |false=>none
      |none=>none).bind fun r=>K r.1 (aps r.2 h'):=fun h' ha K=>by
      unfold X3 Å;rw[ha,hfz]
      cases Iz h p.ts (fa++(args.toList.map (ev t)++fb)) with
      |none=>rfl
      |some x =>
       simp only
       cases p.F x with
       |none=>rfl
       |some y =>
        simp only[eR]
        cases OL (af9 p.rs y) with
        |true=>rfl
        |false=>cases(fa++(args.toList.map (ev t)++fb)).all (fun a=>!ve a)<;>rfl
     refine⟨_,?_,fun K=>(hr _ hw hfn K).trans ((hpe g' p hp path true _ h _).trans (hpk h rfl _)),fun K=>(hr _ hwf hfn2 K).trans (by simp only[he]; exact(hpe g' p hp path true _ h2 _).trans (hpk h2 (XI hsa) _))⟩;intro r hr1 q hq;exfalso
     cases hA:Iz h p.ts (fa++(args.toList.map (ev t)++fb)) with
     |none=>rw[hA] at hr1; cases hr1
     |some x =>
      rw[hA] at hr1;simp only at hr1
      cases hF:p.F x with
      |none=>rw[hF] at hr1; cases hr1
      |some y =>
       rw[hF] at hr1;simp only[eR] at hr1
       split at hr1
       ·cases hr1; cases hq
       ·split at hr1<;>cases hr1
        cases hq
    |_=>rw[ho] at hcl; simp[cls] at hcl
   |_=>exact ho▸plain fun _ _ _ hf=>by rw[ho] at hf; cases hf
  |_=>exact ho▸plain fun _ _ _ hf=>by rw[ho] at hf; cases hf
def arP {l:List Operand} (ht:∀s∈V6 l,lk t2 s=lk t s):∀x∈l,ev t2 x=ev t x:=by
 induction l with
 |nil=>intro x hm; cases hm
 |cons y l ih =>
  intro x hm;rcases di.1 hm with rfl|hm
  ·cases x with
   |tmp i=>exact ht i (by simp[V6])
   |_=>rfl
  ·refine ih (fun s hs=>ht s ?_) x hm
   cases y<;>simp[V6,hs]
def aiq:∀(t:List AV) {d d':Nat} (v v':AV),d≠d'→upd (upd t d v) d' v'=upd (upd t d' v') d v
 |[],_,_,_,_,_=>rfl
 |_::_,0,0,_,_,h=>absurd rfl h
 |_::_,0,_+1,_,_,_=>rfl
 |_::_,_+1,0,_,_,_=>rfl
 |x::t,d+1,d'+1,v,v',h=>by simp only[upd]; rw[aiq t v v' (by omega)]
def abZ:∀(t:List Blk) {d d':Nat} (v v':Blk),d≠d'→ć (ć t d v) d' v'=ć (ć t d' v') d v
 |[],_,_,_,_,_=>rfl
 |_::_,0,0,_,_,h=>absurd rfl h
 |_::_,0,_+1,_,_,_=>rfl
 |_::_,_+1,0,_,_,_=>rfl
 |x::t,d+1,d'+1,v,v',h=>by simp only[ć]; rw[abZ t v v' (by omega)]
def OG {da db:Option Nat} (hd:∀x,da=some x→db≠some x) (va vb:AV):ý (ý t da va) db vb=ý (ý t db vb) da va:=by
 cases da with
 |none=>rfl
 |some x=>cases db with
  |none=>rfl
  |some y=>exact aiq t va vb fun h=>hd x rfl (by rw[h])
def yb {d:Option Nat} {s:Nat} (hd:d≠some s) (v:AV):lk (ý t d v) s=lk t s:=by
 cases d with
 |none=>rfl
 |some x =>
  simp only[ý,am3];rw[if_neg];rintro⟨rfl,_⟩;exact hd rfl
def ajP:∀{u v:List (Nat×Blk)} {h:List Blk},(∀p∈u,∀q∈v,p.1≠q.1)→aps v (aps u h)=aps u (aps v h)
 |[],_,_,_=>rfl
 |p::u,v,h,hn=>by
  show aps v (aps u (ć h p.1 p.2))=aps u (ć (aps v h) p.1 p.2);rw[ajP fun q hq=>hn q (by simp[hq])];congr 1
  have:∀(v:List (Nat×Blk)) (h:List Blk),(∀q∈v,p.1≠q.1)→aps v (ć h p.1 p.2)=ć (aps v h) p.1 p.2:=by
   intro v
   induction v with
   |nil=>intro h _; rfl
   |cons q v ih =>
    intro h hq;show aps v (ć (ć h p.1 p.2) q.1 q.2)=ć (aps v (ć h q.1 q.2)) p.1 p.2;rw[abZ _ _ _ (hq q (by simp)),ih _ fun r hr=>hq r (by simp[hr])]
  exact this v h (hn p (by simp))
def Ŷ (all:List Oper) (o:Oper) (t:List AV):Option Bool :=
 match o.guard with
 |none=>some true
 |some (j,want)=>match lk t (pf all j) with
  |.bool b=>some (b==want)
  |.und=>some false
  |_=>none
def xT (E:Env ρ) (all:List Oper) (o:Oper) (S:St):List Nat :=
 match Ŷ all o S.t with
 |some true=>BW E S o.op
 |_=>[]
def xK (E:Env ρ) (call:List Nat→Bool→Nat→List AV→List Blk→(AV→List Blk→Option ρ)→Option ρ) (fid:Nat) (path:List Nat) (all:List Oper) (bef:List Nat) (acc:List (Nat×List Nat)) (i nid:Nat) (o:Oper) (S:St) (K:List Nat→St→Option ρ):Option ρ :=
 match Ŷ all o S.t==some true&&!chk E all bef acc i (BW E S o.op) with
 |true=>none
 |false=>pN E call fid path true all i nid o S (K (xT E all o S))
def ams {E:Env ρ} {call:List Nat→Bool→Nat→List AV→List Blk→(AV→List Blk→Option ρ)→Option ρ} {fid:Nat} {path:List Nat} {all:List Oper} {bef:List Nat} {o:Oper} {os:List Oper} {i nid:Nat} {acc:List (Nat×List Nat)} {S:St} {K:St→Option ρ} :
 amt E call fid path all bef (o::os) i nid acc S K=xK E call fid path all bef acc i nid o S fun F S'=>amt E call fid path all bef os (i+1) (bif Ď E.clone o.op then nid+1 else nid) ((i,F)::acc) S' K:=by
 have hself:∀d b,lk S.t d=.bool b→({t:=upd S.t d (.bool b),h:=S.h}:St)=S:=fun d b hb=>by rw[←hb,EM]
 have htself:∀d b,lk S.t d=.bool b→upd S.t d (.bool b)=S.t:=fun d b hb=>by rw[←hb,EM]
 simp only[amt,xK,pN,xT,Ŷ]
 cases o.guard with
 |none=>cases chk E all bef acc i (BW E S o.op)<;>rfl
 |some g =>
  obtain⟨j,want⟩:=g;simp only
  cases hb:lk S.t (pf all j)<;>try rfl
  rename_i b;have h1:=hself _ b hb;have h2:=htself _ b hb
  cases b<;>cases want<;>simp only[h1,h2]<;>first
   |rfl
   |(cases chk E all bef acc i (BW E S o.op)<;>rfl)
def HL {E:Env ρ} {o:Op} (hx:∀x∈o.operands.toList,ev t2 x=ev t x) (hs:1≤cls E o→∀x∈o.operands.toList,ol h h2 (ev t x)):BW E {t:=t2,h:=h2} o=BW E {t:=t,h:=h} o:=by
 unfold BW
 split
 ·rename_i hc;have hc1:1≤cls E o:=fV hc
  have:∀l:List Operand,(∀x∈l,x∈o.operands.toList)→(l.flatMap fun x=>refs2 h2 (ev t2 x))=l.flatMap fun x=>refs2 h (ev t x):=by
   intro l
   induction l with
   |nil=>intro _; rfl
   |cons x l ih =>
    intro hl;simp only[dM];rw[hx x (hl x (by simp)),(hs hc1 x (hl x (by simp))).refs,ih fun y hy=>hl y (by simp[hy])]
  exact this _ fun _ h=>h
 ·rfl
def LA {all:List Oper} {o:Oper} (ht:∀s∈iF all o,lk t2 s=lk t s):∀x∈o.op.operands.toList,ev t2 x=ev t x:=arP fun s hm=>ht s (by simp only[iF,dh]; exact .inr hm)
def jb {all:List Oper} {o:Oper} (ht:∀s∈iF all o,lk t2 s=lk t s):Ŷ all o t2=Ŷ all o t:=by
 unfold Ŷ
 cases hg:o.guard with
 |none=>rfl
 |some g =>
  obtain⟨j,want⟩:=g;simp only;rw[ht _ (by simp[iF,hg])]
def apj {E:Env ρ} {o:Op} (hc:1≤cls E o) (hw:mi E {t:=t,h:=h} o=true):∀id∈BW E {t:=t,h:=h} o,lkB h id≠.dead:=fun id hi hd=>by
 obtain⟨x,hm,hi⟩:=(ph hc).1 hi;unfold mi at hw;have hb1:Nat.ble 1 (cls E o)=true:=Nat.ble_eq_true_of_le hc;simp only[hb1,Bool.and_eq_true,List.all_eq_true] at hw;have:=hw.1 x hm id hi;rw[hd] at this;cases this
def NT {E:Env ρ} {call:List Nat→Bool→Nat→List AV→List Blk→(AV→List Blk→Option ρ)→Option ρ} {fid:Nat} {path:List Nat} {all:List Oper} {i nid:Nat} {o:Oper} (r0:ρ)
 (hpe:aoY E call) (hcl:cls E o.op≤2) (hlen:h2.length=h.length) (ht:∀s∈iF all o,lk t2 s=lk t s)
 (hs:Ŷ all o t=some true→1≤cls E o.op→∀x∈o.op.operands.toList,ol h h2 (ev t x)) :
 ∃φ:Option (AV×List (Nat×Blk)),(∀r,φ=some r→∀p∈r.2,(p.1=nid∧Ď E.clone o.op=true)∨(cls E o.op=2∧p.1∈xT E all o {t:=t,h:=h})) ∧
  (∀r,φ=some r→∀id∈xT E all o {t:=t,h:=h},lkB h id≠.dead) ∧
  (∀K,pN E call fid path true all i nid o {t:=t,h:=h} K=φ.bind fun r=>K {t:=ý t o.dst r.1,h:=aps r.2 h}) ∧
  ∀K,pN E call fid path true all i nid o {t:=t2,h:=h2} K=φ.bind fun r=>K {t:=ý t2 o.dst r.1,h:=aps r.2 h2}:=by
 have hx:=LA (t:=t) (t2:=t2) (o:=o) ht;have hwt:=jb (t:=t) (t2:=t2) (o:=o) ht
 cases hw:Ŷ all o t with
 |none =>
  rw[hw] at hwt
  have:∀(S:St),Ŷ all o S.t=none→∀K,pN E call fid path true all i nid o S K=none:=fun S hS K=>by
   unfold Ŷ at hS;unfold pN
   cases hg:o.guard with
   |none=>rw[hg] at hS; cases hS
   |some g =>
    obtain⟨j,want⟩:=g;rw[hg] at hS;simp only at hS ⊢
    cases hb:lk S.t (pf all j)<;>rw[hb] at hS<;>first|rfl|cases hS
  exact⟨none,by simp,by simp,fun K=>this _ hw K,fun K=>this _ hwt K⟩
 |some b =>
  cases b with
  |false =>
   rw[hw] at hwt
   have:∀(S:St),Ŷ all o S.t=some false→∀K,pN E call fid path true all i nid o S K=K {t:=ý S.t o.dst .und,h:=S.h}:=fun S hS K=>by
    unfold Ŷ at hS;unfold pN
    cases hg:o.guard with
    |none=>rw[hg] at hS; cases hS
    |some g =>
     obtain⟨j,want⟩:=g;rw[hg] at hS;simp only at hS ⊢
     cases hb:lk S.t (pf all j)<;>rw[hb] at hS<;>first|rfl|(cases hS; done)|skip
     simp only[Option.some.injEq] at hS ⊢;rw[hS]
   refine⟨some (.und,[]),?_,?_,fun K=>this _ hw K,fun K=>this _ hwt K⟩
   ·intro r hr p hp;cases hr;cases hp
   ·intro r hr id hi;simp only[xT,hw] at hi;cases hi
  |true =>
   rw[hw] at hwt
   have hst:∀(S:St),Ŷ all o S.t=some true→∀K,pN E call fid path true all i nid o S K=g9 E call fid (path++[i]) true S nid o fun v S=>K {t:=ý S.t o.dst v,h:=S.h}:=fun S hS K=>by
    unfold Ŷ at hS;unfold pN
    cases hg:o.guard with
    |none=>rfl
    |some g =>
     obtain⟨j,want⟩:=g;rw[hg] at hS;simp only at hS ⊢
     cases hb:lk S.t (pf all j)<;>rw[hb] at hS<;>first|(cases hS; done)|skip
     simp only[Option.some.injEq] at hS ⊢;rw[hS]
   obtain⟨φ,h1,h2',h3⟩:=arV (fid:=fid) (path:=path++[i]) (nid:=nid) hpe hcl hlen hx (hs hw)
   have hfp:xT E all o {t:=t,h:=h}=BW E {t:=t,h:=h} o.op:=by simp only[xT,hw]
   refine⟨φ,fun r hr p hp=>?_,fun r hr id hi=>?_,fun K=>by rw[hst _ hw,h2'],fun K=>by rw[hst _ hwt,h3]⟩
   ·rw[hfp]; exact h1 r hr p hp
   ·rw[hfp] at hi
    by_cases hc:1≤cls E o.op
    ·refine apj hc ?_ id hi
     cases hwf:mi E {t:=t,h:=h} o.op with
     |true=>rfl
     |false =>
      exfalso;have hk:=h2' fun v S=>some r0;rw[hr] at hk;simp[g9,hwf] at hk
    ·rw[HK (by omega)] at hi;cases hi
def As:∀{l m:List Nat},disj l m=true↔∀x∈l,x∉m
 |[],m=>by simp[disj]
 |x::l,m=>by
  simp only[disj,cZ,eO,eo,di,forall_eq_or_imp,As (l:=l)];refine and_congr_left fun _=>⟨fun h hm=>h x hm (Nat.beq_refl x),fun h y hy he=>?_⟩;have:=dn he;subst this;exact h hy
structure arb (E:Env ρ) (all:List Oper) (bef:List Nat) (ia ib:Nat) (a b:Oper):Prop where
 ha:all[ia]?=some a
 hb:all[ib]?=some b
 a3:cls E a.op≤2
 b3:cls E b.op≤2∨cls E a.op=0
 rb:∀s∈iF all b,a.dst≠some s
 ra:∀s∈iF all a,b.dst≠some s
 dd:∀x,a.dst=some x→b.dst≠some x
 bab:(bef.getD ib 0).testBit ia=false
 bba:(bef.getD ia 0).testBit ib=false
def anP (E:Env ρ) (o:Op):cls E o≤3:=by
 cases o with
 |call c =>
  obtain⟨f,args,tys⟩:=c
  cases f with
  |value f=>cases f<;>simp only[cls]<;>(repeat' split)<;>omega
  |builtin b=>cases b<;>simp[cls]
  |_=>simp[cls]
 |_=>simp[cls]
def ahR {E:Env ρ} {all:List Oper} {bef:List Nat} {ia ib:Nat} {a b:Oper} (hc:aqA E all a b=false) (ha:all[ia]?=some a) (hb:all[ib]?=some b) (h1:(bef.getD ib 0).testBit ia=false) (h2:(bef.getD ia 0).testBit ib=false):arb E all bef ia ib a b:=by
 unfold aqA at hc;simp only[Bool.or_eq_false_iff,beq_eq_false_iff_ne] at hc;obtain⟨⟨⟨⟨_,h3,h4⟩,h5⟩,h6⟩,h7⟩:=hc;have qa:=anP E a.op;have qb:=anP E b.op
 have h4':cls E b.op≤2∨cls E a.op=0:=by
  by_cases h8:cls E b.op=3
  ·rw[h8] at h4;right
   by_cases h9:1≤cls E a.op
   ·rw[Nat.ble_eq_true_of_le h9] at h4; cases h4
   ·omega
  ·left; omega
 refine⟨ha,hb,by omega,h4',fun s hs hd=>?_,fun s hs hd=>?_,fun x hx hy=>?_,h1,h2⟩
 ·rw[hd] at h5;simp[apY,hs] at h5
 ·rw[hd] at h6;simp[apY,hs] at h6
 ·rw[hx,hy] at h7;simp at h7
def E8 {E:Env ρ} {all:List Oper} {bef:List Nat} {j i:Nat} {a b:Oper} {Fj Fi:List Nat} (hp:E9 E all bef j i Fj Fi=true) (ha:all[j]?=some a) (hb:all[i]?=some b) (h1:(bef.getD j 0).testBit i=false) (h2:(bef.getD i 0).testBit j=false)
 (hc:Dg E a.op b.op=true):∀x∈Fj,x∉Fi:=by
 unfold E9 at hp;simp only[ha,hb,hc,h1,h2,Bool.not_true,Bool.false_or] at hp;exact As.1 hp
def ahS {E:Env ρ} {a b:Op}:Dg E a b=Dg E b a:=by
 unfold Dg; cases cls E a==2<;>cases cls E b==2<;>cases Nat.ble 1 (cls E a)<;>cases Nat.ble 1 (cls E b)<;>rfl
def agx {E:Env ρ} {all:List Oper} {bef:List Nat} {j i:Nat} {Fj Fi:List Nat} (hp:E9 E all bef j i Fj Fi=true):E9 E all bef i j Fi Fj=true:=by
 unfold E9 at hp ⊢
 cases ha:all[j]? with
 |none=>rw[ha] at hp; cases hp
 |some a=>cases hb:all[i]? with
  |none=>rw[ha,hb] at hp; cases hp
  |some b =>
   rw[ha,hb] at hp;simp only[Bool.or_eq_true,eO] at hp ⊢;rw[ahS];rcases hp with hp|hp|hp|hp
   ·exact .inl hp
   ·exact .inr (.inr (.inl hp))
   ·exact .inr (.inl hp)
   ·exact .inr (.inr (.inr (As.2 fun x hx hy=>As.1 hp x hy hx)))
def pJ {E:Env ρ} {a b:Op}:Dg E a b=true↔(cls E a=2∧1≤cls E b)∨(1≤cls E a∧cls E b=2):=by
 unfold Dg;simp only[Bool.or_eq_true,Bool.and_eq_true,beq_iff_eq,Nat.ble_eq]
def po {E:Env ρ} {all:List Oper} {bef:List Nat} {acc:List (Nat×List Nat)} {p:Nat×List Nat} {i:Nat} {F:List Nat}:chk E all bef (p::acc) i F=(E9 E all bef p.1 i p.2 F&&chk E all bef acc i F):=by
 simp[chk]
def I1 {E:Env ρ} {all:List Oper} {bef:List Nat} {j i:Nat} {a b:Oper} {Fj:List Nat} (ha:all[j]?=some a) (hb:all[i]?=some b):E9 E all bef j i Fj []=true:=by
 unfold E9;simp only[ha,hb,Bool.or_eq_true];exact .inr (.inr (.inr (As.2 fun x _=>by simp)))
def Sr {E:Env ρ} {all:List Oper} {o:Oper} (ht:∀s∈iF all o,lk t2 s=lk t s) (hs:Ŷ all o t=some true→1≤cls E o.op→∀x∈o.op.operands.toList,ol h h2 (ev t x)):xT E all o {t:=t2,h:=h2}=xT E all o {t:=t,h:=h}:=by
 unfold xT;simp only[jb (t:=t) (t2:=t2) ht]
 cases hw:Ŷ all o t with
 |none=>rfl
 |some b=>cases b with
  |false=>rfl
  |true=>exact HL (LA ht) (hs hw)
def akZ {E:Env ρ} {o:Op} (h:cls E o=0):Ď E.clone o=false:=by
 cases o with
 |call c =>
  obtain⟨f,args,tys⟩:=c
  cases f with
  |value f=>cases f<;>simp only[cls] at h<;>(repeat' split at h)<;>first|omega|rfl|(cases h; done)
  |builtin b=>cases b<;>simp[cls] at h
  |_=>simp[cls] at h
 |_=>first|rfl|(simp[cls] at h; done)
def anQ {E:Env ρ} {o:Op} (h:cls E o=0):Xe o=false:=by
 cases o with
 |call c =>
  obtain⟨f,args,tys⟩:=c
  cases f with
  |value f=>cases f<;>simp only[cls] at h<;>(repeat' split at h)<;>first|omega|(cases h; done)
  |_=>rfl
 |_=>rfl
def apF {E:Env ρ} {call:List Nat→Bool→Nat→List AV→List Blk→(AV→List Blk→Option ρ)→Option ρ} {fid:Nat} {path:List Nat} {nid:Nat} {o:Oper} (hcl:cls E o.op=0) :
 ∃φ:Option AV,∀(t2:List AV) (h2:List Blk),(∀x∈o.op.operands.toList,ev t2 x=ev t x)→∀K,g9 E call fid path true {t:=t2,h:=h2} nid o K=φ.bind fun v=>K v {t:=t2,h:=h2}:=by
 have hcall:=anQ hcl;have hal:=akZ hcl
 have hr:∀S:St,∀K,g9 E call fid path true S nid o K=opK E.P S nid false o.op K:=fun S K=>by
  have hw:mi E S o.op=true:=by
   unfold mi
   have:Nat.ble 1 (cls E o.op)=false:=by rw[hcl]; rfl
   rw[this]
  have hea:abg E true fid o=false:=by
   unfold abg
   cases ho:o.op<;>first|rfl|(rw[ho] at hcl; simp[cls] at hcl; done)
  unfold g9;simp only[hw,hea,Bool.not_true,Bool.and_false]
  cases hop:o.op with
  |call c =>
   obtain⟨f,args,tys⟩:=c;rw[hop] at hcall
   cases f with
   |value f=>cases hcall
   |_=>rfl
  |_=>rfl
 refine⟨opK E.P {t:=t,h:=[]} nid false o.op fun v _=>some v,fun t2 h2 hx K=>?_⟩;rw[hr,Yk]
 have:=ari (P:=E.P) (E:=E) (o:=o.op) (nid:=nid) (σ:=AV) (σ2:=AV×St) (t:=t) (t2:=t2) (h:=[]) (h2:=h2) (K:=fun v _=>some v) (K2:=fun v S=>some (v,S)) (R:=fun x y=>y=x.map fun v=>(v,({t:=t2,h:=h2}:St)))
  rfl (by omega) hcall hx (fun h1=>by omega) (fun ty n ps ho=>by rw[ho] at hcl; simp[cls] at hcl) fun v ef hef=>by
   cases ef with
   |none=>rfl
   |some B=>rw[hal] at hef; exact absurd (hef rfl) (by simp)
 unfold opR;rw[this]
 cases opK E.P {t:=t,h:=[]} nid false o.op (fun v _=>some v)<;>rfl
def al0 {E:Env ρ} {call:List Nat→Bool→Nat→List AV→List Blk→(AV→List Blk→Option ρ)→Option ρ} {fid:Nat} {path:List Nat} {all:List Oper} {i nid:Nat} {o:Oper} (hcl:cls E o.op=0) (t:List AV) :
 ∃φ:Option AV,∀(t2:List AV) (h2:List Blk),(∀s∈iF all o,lk t2 s=lk t s)→∀K,pN E call fid path true all i nid o {t:=t2,h:=h2} K=φ.bind fun v=>K {t:=ý t2 o.dst v,h:=h2}:=by
 obtain⟨φ,hφ⟩:=apF (call:=call) (fid:=fid) (path:=path++[i]) (nid:=nid) (t:=t) hcl
 cases hw:Ŷ all o t with
 |none =>
  refine⟨none,fun t2 h2 ht K=>?_⟩;have hw2:=(jb (t:=t) (t2:=t2) ht).trans hw;unfold Ŷ at hw2;unfold pN
  cases hg:o.guard with
  |none=>rw[hg] at hw2; cases hw2
  |some g =>
   obtain⟨j,want⟩:=g;rw[hg] at hw2;simp only at hw2 ⊢
   cases hb:lk t2 (pf all j)<;>rw[hb] at hw2<;>first|rfl|cases hw2
 |some b =>
  cases b with
  |false =>
   refine⟨some .und,fun t2 h2 ht K=>?_⟩;have hw2:=(jb (t:=t) (t2:=t2) ht).trans hw;unfold Ŷ at hw2;unfold pN
   cases hg:o.guard with
   |none=>rw[hg] at hw2; cases hw2
   |some g =>
    obtain⟨j,want⟩:=g;rw[hg] at hw2;simp only at hw2 ⊢
    cases hb:lk t2 (pf all j)<;>rw[hb] at hw2<;>first|rfl|(cases hw2; done)|skip
    simp only[Option.some.injEq] at hw2 ⊢;rw[hw2];rfl
  |true =>
   refine⟨φ,fun t2 h2 ht K=>?_⟩;have hw2:=(jb (t:=t) (t2:=t2) ht).trans hw;have h3:=hφ t2 h2 (LA ht);unfold Ŷ at hw2;unfold pN
   cases hg:o.guard with
   |none=>exact h3 _
   |some g =>
    obtain⟨j,want⟩:=g;rw[hg] at hw2;simp only at hw2 ⊢
    cases hb:lk t2 (pf all j)<;>rw[hb] at hw2<;>first|(cases hw2; done)|skip
    simp only[Option.some.injEq] at hw2 ⊢;rw[hw2];exact h3 _
def amd {E:Env ρ} {call:List Nat→Bool→Nat→List AV→List Blk→(AV→List Blk→Option ρ)→Option ρ} {fid:Nat} {path:List Nat} {nid:Nat} {o:Oper} (hcl:cls E o.op=3) (hx:∀x∈o.op.operands.toList,ev t2 x=ev t x) (K:AV→St→Option ρ) :
 g9 E call fid path true {t:=t2,h:=h} nid o K=g9 E call fid path true {t:=t,h:=h} nid o fun v S=>K v {t:=t2,h:=S.h}:=by
 have hwf:mi E {t:=t2,h:=h} o.op=mi E {t:=t,h:=h} o.op:=SL hx fun _ _ _ _ _=>rfl;unfold g9;rw[hwf]
 cases ho:o.op with
 |call c =>
  obtain⟨f,args,tys⟩:=c;rw[ho] at hx hcl
  cases f with
  |value f =>
   have hf:ev t2 f=ev t f:=hx f (by simp[Op.operands,Call.operands]);have hxa:∀x∈args.toList,ev t2 x=ev t x:=fun x hm=>hx x (by simp[Op.operands,Call.operands]; exact .inr (by simpa using hm));have he:=Pd hxa;simp only[hf,he]
   cases hev:ev t f with
   |fn g fa fb =>
    cases g with
    |func g =>
     simp only
     cases hc:E.clone g&&akH f with
     |false=>rfl
     |true =>
      exfalso;rw[cZ] at hc
      cases f with
      |func g' =>
       have:g'=g:=by simp only[ev] at hev; cases hev; rfl
       subst this;simp[cls,hc.1] at hcl
      |_=>simp[akH] at hc
    |_=>rfl
   |_=>rfl
  |builtin b=>cases b<;>simp[cls] at hcl
  |_=>rfl
 |_=>rw[ho] at hcl; simp[cls] at hcl
def aj9 {E:Env ρ} {call:List Nat→Bool→Nat→List AV→List Blk→(AV→List Blk→Option ρ)→Option ρ} {fid:Nat} {path:List Nat} {all:List Oper} {i nid:Nat} {o:Oper} (hcl:cls E o.op=3) (ht:∀s∈iF all o,lk t2 s=lk t s) :
 ∃Ψ:(AV→List Blk→Option ρ)→Option ρ,(∀K,pN E call fid path true all i nid o {t:=t,h:=h} K=Ψ fun v h'=>K {t:=ý t o.dst v,h:=h'})∧∀K,pN E call fid path true all i nid o {t:=t2,h:=h} K=Ψ fun v h'=>K {t:=ý t2 o.dst v,h:=h'}:=by
 have key:∀t':List AV,(∀s∈iF all o,lk t' s=lk t s)→∀K,pN E call fid path true all i nid o {t:=t',h:=h} K=(fun k:AV→List Blk→Option ρ=>match Ŷ all o t with
  |none=>none
  |some false=>k .und h
  |some true=>g9 E call fid (path++[i]) true {t:=t,h:=h} nid o fun v S=>k v S.h) fun v h'=>K {t:=ý t' o.dst v,h:=h'}:=fun t' ht K=>by
  have hwt:=jb (t:=t) (t2:=t') (o:=o) ht;have h3:=amd (call:=call) (fid:=fid) (path:=path++[i]) (nid:=nid) (h:=h) hcl (LA ht);rw[←hwt];unfold Ŷ pN
  cases hg:o.guard with
  |none=>exact h3 _
  |some g =>
   obtain⟨j,want⟩:=g;simp only
   cases hb:lk t' (pf all j) with
   |bool b =>
    simp only
    cases hbw:b==want with
    |true=>exact h3 _
    |false=>rfl
   |_=>rfl
 exact⟨fun k:AV→List Blk→Option ρ=>match Ŷ all o t with
  |none=>none
  |some false=>k .und h
  |some true=>g9 E call fid (path++[i]) true {t:=t,h:=h} nid o fun v S=>k v S.h,key t fun _ _=>rfl,key t2 ht⟩
def afj {E:Env ρ} {all:List Oper} {o:Oper} (hcl:cls E o.op=0) (S:St):xT E all o S=[]:=by
 unfold xT
 split
 ·exact HK hcl
 ·rfl
def swap0 {E:Env ρ} {call:List Nat→Bool→Nat→List AV→List Blk→(AV→List Blk→Option ρ)→Option ρ} {fid:Nat} {path:List Nat} {all:List Oper} {bef:List Nat} {acc:List (Nat×List Nat)} {ia na ib nb:Nat} {a b:Oper} {K:List Nat→List Nat→St→Option ρ} {r:ρ}
 (hc:arb E all bef ia ib a b) (ha:cls E a.op=0) (hb:cls E b.op=3)
 (e:xK E call fid path all bef acc ia na a {t:=t,h:=h} (fun Fa S=>xK E call fid path all bef ((ia,Fa)::acc) ib nb b S (K Fa))=some r) :
 xK E call fid path all bef acc ib nb b {t:=t,h:=h} (fun Fb S=>xK E call fid path all bef ((ib,Fb)::acc) ia na a S fun Fa=>K Fa Fb)=some r:=by
 obtain⟨φ,hφ⟩:=al0 (call:=call) (fid:=fid) (path:=path) (all:=all) (i:=ia) (nid:=na) ha t;unfold xK at e
 split at e<;>try (cases e; done)
 rename_i hcha;rw[hφ t h fun _ _=>rfl] at e;obtain⟨va,q1,q2⟩:=ż e;simp only at q2
 split at q2<;>try (cases q2; done)
 rename_i hchb;have htb:∀s∈iF all b,lk (ý t a.dst va) s=lk t s:=fun s hs=>yb (hc.rb s hs) _;obtain⟨Ψ,p1,p2⟩:=aj9 (call:=call) (fid:=fid) (path:=path) (all:=all) (i:=ib) (nid:=nb) (h:=h) hb htb;rw[p2] at q2;have hwb:Ŷ all b (ý t a.dst va)=Ŷ all b t:=jb htb;have hfo:BW E {t:=ý t a.dst va,h:=h} b.op=BW E {t:=t,h:=h} b.op:=HL (LA htb) fun _ _ _ _ _=>rfl;have hfb:xT E all b {t:=ý t a.dst va,h:=h}=xT E all b {t:=t,h:=h}:=Sr htb fun _ _ _ _ _ _=>rfl;unfold xK
 split
 ·rename_i hx;exfalso;rw[hfo,hwb,po] at hchb
  cases hw:Ŷ all b t==some true<;>rw[hw] at hx hchb<;>simp only[Bool.false_and,dV,eO,fe,dv] at hx hchb
  rw[hx,Bool.and_false] at hchb;cases hchb
 ·rw[p1];rw[←q2];congr 1;funext v h';have hta:∀s∈iF all a,lk (ý t b.dst v) s=lk t s:=fun s hs=>yb (hc.ra s hs) _;have hwa:Ŷ all a (ý t b.dst v)=Ŷ all a t:=jb hta
  have hcond:¬((Ŷ all a (ý t b.dst v)==some true&&!chk E all bef ((ib,xT E all b {t:=t,h:=h})::acc) ia (BW E {t:=ý t b.dst v,h:=h'} a.op))=true):=by
   rw[hwa,HK ha,po,I1 hc.hb hc.ha,dV];rw[HK ha] at hcha;exact ee.1 hcha
  dsimp only
  split
  ·rename_i hy; exact absurd hy hcond
  ·rw[hφ _ _ hta,q1,eR,afj ha,afj ha,hfb,OG hc.dd]
def swap {E:Env ρ} {call:List Nat→Bool→Nat→List AV→List Blk→(AV→List Blk→Option ρ)→Option ρ} {fid:Nat} {path:List Nat} {all:List Oper} {bef:List Nat} {acc:List (Nat×List Nat)} {ia na ib nb:Nat} {a b:Oper} {K:List Nat→List Nat→St→Option ρ} {r:ρ}
 (hpe:aoY E call) (hc:arb E all bef ia ib a b) (hbd:Ď E.clone b.op=true→lkB h nb=.dead) (hn:Ď E.clone a.op=true→Ď E.clone b.op=true→na≠nb)
 (hfar1:Ď E.clone a.op=true→∀x∈b.op.operands.toList,na∉refs1 (ev t x))
 (hfar:1≤cls E b.op→Ď E.clone a.op=true→(∀p∈acc,∀c,all[p.1]?=some c→Dg E c.op b.op=true→(bef.getD ib 0).testBit p.1=false→(bef.getD p.1 0).testBit ib=false→∀x∈b.op.operands.toList,∀id∈refs1 (ev t x),id∉p.2)→∀x∈b.op.operands.toList,na∉refs2 h (ev t x))
 (e:xK E call fid path all bef acc ia na a {t:=t,h:=h} (fun Fa S=>xK E call fid path all bef ((ia,Fa)::acc) ib nb b S (K Fa))=some r) :
 xK E call fid path all bef acc ib nb b {t:=t,h:=h} (fun Fb S=>xK E call fid path all bef ((ib,Fb)::acc) ia na a S fun Fa=>K Fa Fb)=some r:=by
 by_cases hb3:cls E b.op≤2
 case neg =>
  have:=anP E b.op;exact swap0 hc (hc.b3.resolve_left hb3) (by omega) e
 -- what a does
 obtain⟨φa,a0,a1,a2,_⟩:=NT (t:=t) (t2:=t) (h:=h) (h2:=h) (call:=call) (fid:=fid) (path:=path) (i:=ia) (nid:=na) (all:=all) r hpe hc.a3 rfl (fun _ _=>rfl) (fun _ _ _ _ _ _=>rfl);unfold xK at e
 split at e<;>try (cases e; done)
 rename_i hcha;rw[a2] at e;obtain⟨⟨va,ea⟩,q1,q2⟩:=ż e;simp only at q2
 split at q2<;>try (cases q2; done)
 rename_i hchb;have hal1:=a1 _ q1;have hea:=a0 _ q1;simp only at hea
 -- b looks at the same
 have htb:∀s∈iF all b,lk (ý t a.dst va) s=lk t s:=fun s hs=>yb (hc.rb s hs) _;have htb':∀s∈iF all b,lk t s=lk (ý t a.dst va) s:=fun s hs=>(htb s hs).symm;have hxb:=LA htb;have hwb:Ŷ all b (ý t a.dst va)=Ŷ all b t:=jb htb
 have hne1:1≤cls E b.op→Ŷ all b t=some true→chk E all bef ((ia,xT E all a {t:=t,h:=h})::acc) ib (BW E {t:=ý t a.dst va,h:=aps ea h} b.op)=true:=fun _ hw=>by
  rw[hwb,hw] at hchb;simpa using hchb
 have hone:Ŷ all b t=some true→1≤cls E b.op→∀x∈b.op.operands.toList,∀id∈refs1 (ev t x),lkB (aps ea h) id=lkB h id:=fun hw h1 x hx id hi=>by
  refine XJ fun p hp hid=>?_;rcases hea p hp with⟨h2,h3⟩|⟨h2,h3⟩
  ·exact hfar1 h3 x hx (by rw[←h2,hid]; exact hi)
  ·have hk:=hne1 h1 hw;rw[po,cZ] at hk;refine E8 hk.1 hc.ha hc.hb hc.bba hc.bab (pJ.2 (.inl ⟨h2,h1⟩)) p.1 h3 ?_;rw[hid];refine(ph h1).2 ⟨x,hx,?_⟩;rw[hxb x hx];simp only[refs2,dh];exact .inl hi
 have hrefs:Ŷ all b t=some true→1≤cls E b.op→∀x∈b.op.operands.toList,refs2 (aps ea h) (ev t x)=refs2 h (ev t x):=fun hw h1 x hx=>by
  have:∀(l:List Nat),(∀id∈l,lkB (aps ea h) id=lkB h id)→(l.flatMap fun id=>(SZ (lkB (aps ea h) id)).flatMap ĭ)=l.flatMap fun id=>(SZ (lkB h id)).flatMap ĭ:=by
   intro l
   induction l with
   |nil=>intro _; rfl
   |cons y l ih=>intro hl; simp only[dM]; rw[hl y (by simp),ih fun id hi=>hl id (by simp[hi])]
  simp only[refs2];rw[this _ (hone hw h1 x hx)]
 have hfar2:Ŷ all b t=some true→1≤cls E b.op→Ď E.clone a.op=true→∀x∈b.op.operands.toList,na∉refs2 h (ev t x):=fun hw h1 h2=>hfar h1 h2 fun p hp c hc1 hc2 hb1 hb2 x hx id hi hid=>by
  have hk:=hne1 h1 hw;rw[po,cZ] at hk;have hk2:=dN.1 hk.2 p hp;refine E8 hk2 hc1 hc.hb hb2 hb1 hc2 id hid ((ph h1).2 ⟨x,hx,?_⟩);rw[hxb x hx];simp only[refs2,dh];exact .inl hi
 have hsame:Ŷ all b t=some true→1≤cls E b.op→∀x∈b.op.operands.toList,ol h (aps ea h) (ev t x):=fun hw h1 x hx id hi=>by
  refine XJ fun p hp hid=>?_;rcases hea p hp with⟨h2,h3⟩|⟨h2,h3⟩
  ·exact hfar2 hw h1 h3 x hx (by rw[←h2,hid]; exact hi)
  ·have hk:=hne1 h1 hw;rw[po,cZ] at hk;refine E8 hk.1 hc.ha hc.hb hc.bba hc.bab (pJ.2 (.inl ⟨h2,h1⟩)) p.1 h3 ?_;rw[hid];refine(ph h1).2 ⟨x,hx,?_⟩;rw[hxb x hx,hrefs hw h1 x hx];exact hi
 -- what b does
 obtain⟨φb,b0,b1,b2,b3⟩:=NT (t:=t) (t2:=ý t a.dst va) (h:=h) (h2:=aps ea h) (call:=call) (fid:=fid) (path:=path) (i:=ib) (nid:=nb) (all:=all) r hpe hb3 (KJ _ _) htb hsame;have hfb:xT E all b {t:=ý t a.dst va,h:=aps ea h}=xT E all b {t:=t,h:=h}:=Sr htb hsame;rw[b3] at q2;obtain⟨⟨vb,eb⟩,q3,q4⟩:=ż q2;simp only at q4;rw[hfb] at q4;have heb:=b0 _ q3;simp only at heb;have hfo:Ŷ all b t=some true→BW E {t:=ý t a.dst va,h:=aps ea h} b.op=BW E {t:=t,h:=h} b.op:=fun hw=>HL hxb (hsame hw)
 -- a looks at the same
 have hta:∀s∈iF all a,lk (ý t b.dst vb) s=lk t s:=fun s hs=>yb (hc.ra s hs) _
 have hdisj:Dg E a.op b.op=true→∀id∈xT E all a {t:=t,h:=h},id∉xT E all b {t:=t,h:=h}:=fun hcl id hi hj=>by
  unfold xT at hj;simp only at hj
  split at hj
  ·rename_i hw
   have h1:1≤cls E b.op:=by rcases pJ.1 hcl with h|h<;>omega
   have hk:=hne1 h1 hw;rw[po,cZ,hfo hw] at hk;exact E8 hk.1 hc.ha hc.hb hc.bba hc.bab hcl id hi hj
  ·cases hj
 have hsamea:Ŷ all a t=some true→1≤cls E a.op→∀x∈a.op.operands.toList,ol h (aps eb h) (ev t x):=fun hw h1 x hx id hi=>by
  have hidF:id∈xT E all a {t:=t,h:=h}:=by
   unfold xT;simp only[hw];exact(ph h1).2 ⟨x,hx,hi⟩
  refine XJ fun p hp hid=>?_;rcases heb p hp with⟨h2,h3⟩|⟨h2,h3⟩
  ·exact hal1 id hidF (by rw[←hid,h2]; exact hbd h3)
  ·exact hdisj (pJ.2 (.inr ⟨h1,h2⟩)) id hidF (hid▸h3)
 obtain⟨φa',a0',a1',a2',a3'⟩:=NT (t:=t) (t2:=ý t b.dst vb) (h:=h) (h2:=aps eb h) (call:=call) (fid:=fid) (path:=path) (i:=ia) (nid:=na) (all:=all) r hpe hc.a3 (KJ _ _) hta hsamea;have hfa:xT E all a {t:=ý t b.dst vb,h:=aps eb h}=xT E all a {t:=t,h:=h}:=Sr hta hsamea
 have h3:pN E call fid path true all ia na a {t:=t,h:=h} (fun S=>K (xT E all a {t:=t,h:=h}) (xT E all b {t:=t,h:=h}) {t:=ý S.t b.dst vb,h:=aps eb S.h})=some r:=by rw[a2,q1]; exact q4
 rw[a2'] at h3;obtain⟨⟨va',ea'⟩,q5,q6⟩:=ż h3;simp only at q6;have hea':=a0' _ q5;simp only at hea'
 have hcomm:aps eb (aps ea' h)=aps ea' (aps eb h):=ajP fun p hp q hq hpq=>by
  rcases hea' p hp with⟨h2,h3⟩|⟨h2,h3⟩<;>rcases heb q hq with⟨h4,h5⟩|⟨h4,h5⟩
  ·exact hn h3 h5 (by rw[←h2,←h4]; exact hpq)
  ·-- b would write a's new block
   have hw:Ŷ all b t=some true:=by
    unfold xT at h5;simp only at h5
    split at h5
    ·assumption
    ·cases h5
   have h5':q.1∈BW E {t:=t,h:=h} b.op:=by
    unfold xT at h5;simp only[hw] at h5;exact h5
   obtain⟨x,hx,hi⟩:=(ph (by omega)).1 h5';exact hfar2 hw (by omega) h3 x hx (by rw[←h2,hpq]; exact hi)
  ·exact hal1 p.1 h3 (by rw[hpq,h4]; exact hbd h5)
  ·exact hdisj (pJ.2 (.inl ⟨h2,by omega⟩)) p.1 h3 (by rw[hpq]; exact h5)
 rw[OG hc.dd,hcomm] at q6
 -- the checks
 have chb:(Ŷ all b t==some true&&!chk E all bef acc ib (BW E {t:=t,h:=h} b.op))=false:=by
  cases hw:Ŷ all b t==some true with
  |false=>rfl
  |true =>
   have hw':Ŷ all b t=some true:=by simpa using hw
   rw[hwb,hw] at hchb;simp only[dV,fe] at hchb ⊢;rw[po,cZ,hfo hw'] at hchb;exact hchb.2
 have cha:(Ŷ all a (ý t b.dst vb)==some true&&!chk E all bef ((ib,xT E all b {t:=t,h:=h})::acc) ia (BW E {t:=ý t b.dst vb,h:=aps eb h} a.op))=false:=by
  rw[jb hta]
  cases hw:Ŷ all a t==some true with
  |false=>rfl
  |true =>
   have hw':Ŷ all a t=some true:=by simpa using hw
   rw[hw] at hcha;simp only[dV,fe] at hcha ⊢;rw[HL (LA hta) (hsamea hw'),po,cZ];refine⟨agx ?_,hcha⟩
   have hfa0:xT E all a {t:=t,h:=h}=BW E {t:=t,h:=h} a.op:=by simp only[xT,hw']
   cases hwb':Ŷ all b t with
   |some wb=>cases wb with
    |true =>
     rw[hwb,hwb'] at hchb;simp only[beq_self_eq_true,dV,fe] at hchb;rw[po,cZ,hfo hwb',hfa0] at hchb;simp only[xT,hwb'];exact hchb.1
    |false=>simp only[xT,hwb']; exact I1 hc.ha hc.hb
   |none=>simp only[xT,hwb']; exact I1 hc.ha hc.hb
 unfold xK;simp only[chb];rw[b2,q3];simp only[Option.bind_some,cha];rw[a3',q5];simp only[Option.bind_some];rw[hfa];exact q6
abbrev Item:=Nat×Nat×Oper
def oE (clone:Nat→Bool):List Oper→Nat→Nat→List Item
 |[],_,_=>[]
 |o::os,i,nid=>(i,nid,o)::oE clone os (i+1) (bif Ď clone o.op then nid+1 else nid)
def aiD (E:Env ρ) (call:List Nat→Bool→Nat→List AV→List Blk→(AV→List Blk→Option ρ)→Option ρ) (fid:Nat) (path:List Nat) (all:List Oper) (bef:List Nat):List Item→List (Nat×List Nat)→St→(St→Option ρ)→Option ρ
 |[],_,S,K=>K S
 |x::l,acc,S,K=>xK E call fid path all bef acc x.1 x.2.1 x.2.2 S fun F S=>aiD E call fid path all bef l ((x.1,F)::acc) S K
def acY {E:Env ρ} {call:List Nat→Bool→Nat→List AV→List Blk→(AV→List Blk→Option ρ)→Option ρ} {fid:Nat} {path:List Nat} {all:List Oper} {bef:List Nat}:∀(os:List Oper) (i nid:Nat) (acc:List (Nat×List Nat)) (S:St) (K:St→Option ρ),
 amt E call fid path all bef os i nid acc S K=aiD E call fid path all bef (oE E.clone os i nid) acc S K
 |[],_,_,_,_,_=>rfl
 |o::os,i,nid,acc,S,K=>by
  rw[ams];simp only[oE,aiD];congr 1;funext F S';exact acY os _ _ _ S' K
def aqD {E:Env ρ} {all:List Oper} {bef:List Nat} {acc acc':List (Nat×List Nat)} {i:Nat} {F:List Nat} (h:∀p,p∈acc↔p∈acc'):chk E all bef acc i F=chk E all bef acc' i F:=by
 rw[dO];simp only[chk,dN]
 exact forall_congr' fun p=>by rw[h p]
def acj {E:Env ρ} {call:List Nat→Bool→Nat→List AV→List Blk→(AV→List Blk→Option ρ)→Option ρ} {fid:Nat} {path:List Nat} {all:List Oper} {bef:List Nat} {K:St→Option ρ}:∀(l:List Item) {acc acc':List (Nat×List Nat)} (S:St),(∀p,p∈acc↔p∈acc') →
 aiD E call fid path all bef l acc S K=aiD E call fid path all bef l acc' S K
 |[],_,_,_,_=>rfl
 |x::l,acc,acc',S,h=>by
  simp only[aiD,xK];rw[aqD h]
  split
  ·rfl
  ·congr 1;funext S'
   exact acj l S' fun p=>by simp[h p]
def arE {E:Env ρ} {call:List Nat→Bool→Nat→List AV→List Blk→(AV→List Blk→Option ρ)→Option ρ} {fid:Nat} {path:List Nat} {all:List Oper} {bef:List Nat} {b:Item} {rest:List Item} {K:St→Option ρ} {r:ρ} {h0:List Blk} {t0:List AV}
 (hpe:aoY E call) :
 ∀(as:List Item) (acc:List (Nat×List Nat)) (t:List AV) (h:List Blk),(∀a∈as,arb E all bef a.1 b.1 a.2.2 b.2.2)→(∀s∈iF all b.2.2,lk t s=lk t0 s)→(Ď E.clone b.2.2.op=true→lkB h b.2.1=.dead) →
  (∀a∈as,Ď E.clone a.2.2.op=true→Ď E.clone b.2.2.op=true→a.2.1≠b.2.1)→(∀a∈as,Ď E.clone a.2.2.op=true→∀x∈b.2.2.op.operands.toList,a.2.1∉refs2 h0 (ev t0 x)) →
  (1≤cls E b.2.2.op→∀x∈b.2.2.op.operands.toList,∀id∈refs1 (ev t0 x),lkB h id=lkB h0 id∨∃p∈acc,(∃c,all[p.1]?=some c∧Dg E c.op b.2.2.op=true∧(bef.getD b.1 0).testBit p.1=false∧(bef.getD p.1 0).testBit b.1=false)∧id∈p.2) →
  aiD E call fid path all bef (as++b::rest) acc {t:=t,h:=h} K=some r→aiD E call fid path all bef (b::(as++rest)) acc {t:=t,h:=h} K=some r
 |[],acc,t,h,_,_,_,_,_,_,e=>e
 |a::as,acc,t,h,hap,ht,hbd,hn,hfar,hinv,e=>by
  have hA:=hap a (by simp);have hx0:∀x∈b.2.2.op.operands.toList,ev t x=ev t0 x:=LA ht
  have hf1:Ď E.clone a.2.2.op=true→∀x∈b.2.2.op.operands.toList,a.2.1∉refs1 (ev t x):=fun hal x hx hi=>hfar a (by simp) hal x hx (by
   rw[hx0 x hx] at hi;simp only[refs2,dh]
   exact .inl hi)
  simp only[ff,aiD] at e ⊢
  have fin:=swap (K:=fun Fa Fb S=>aiD E call fid path all bef (as++rest) ((b.1,Fb)::(a.1,Fa)::acc) S K) (r:=r) (t:=t) (h:=h) (acc:=acc) (ia:=a.1) (na:=a.2.1) (ib:=b.1) (nb:=b.2.1) (a:=a.2.2) (b:=b.2.2) (fid:=fid) (path:=path) hpe hA hbd (hn a (by simp)) hf1
   (fun h1 hal hno x hx=>by
    rw[hx0 x hx];have hcells:∀id∈refs1 (ev t0 x),lkB h id=lkB h0 id:=fun id hi=>(hinv h1 x hx id hi).resolve_right fun⟨p,hp,⟨c,c1,c2,c3,c4⟩,hid⟩=>hno p hp c c1 c2 c3 c4 x hx id (by rw[hx0 x hx]; exact hi) hid
    have:refs2 h (ev t0 x)=refs2 h0 (ev t0 x):=by
     have key:∀(l:List Nat),(∀id∈l,lkB h id=lkB h0 id)→(l.flatMap fun id=>(SZ (lkB h id)).flatMap ĭ)=l.flatMap fun id=>(SZ (lkB h0 id)).flatMap ĭ:=by
      intro l
      induction l with
      |nil=>intro _; rfl
      |cons y l ih=>intro hl; simp only[dM]; rw[hl y (by simp),ih fun id hi=>hl id (by simp[hi])]
     simp only[refs2];rw[key _ hcells]
    rw[this]
    exact hfar a (by simp) hal x hx) ?_
  ·have hperm:∀(Fa Fb:List Nat) (S:St),aiD E call fid path all bef (as++rest) ((b.1,Fb)::(a.1,Fa)::acc) S K=aiD E call fid path all bef (as++rest) ((a.1,Fa)::(b.1,Fb)::acc) S K:=fun Fa Fb S=>acj _ S fun p=>by
    simp only[di]
    constructor<;>rintro(h|h|h)<;>simp[h]
   simp only[hperm] at fin;exact fin
  ·-- behind a
   obtain⟨φa,a0,a1,a2,_⟩:=NT (t:=t) (t2:=t) (h:=h) (h2:=h) (call:=call) (fid:=fid) (path:=path) (i:=a.1) (nid:=a.2.1) (all:=all) r hpe hA.a3 rfl (fun _ _=>rfl) (fun _ _ _ _ _ _=>rfl);unfold xK at e ⊢
   split at e<;>try (cases e; done)
   rename_i hcha;simp only[hcha];rw[a2] at e ⊢;obtain⟨⟨va,ea⟩,q1,q2⟩:=ż e;rw[q1];simp only[eR];have hal1:=a1 _ q1;have hea:=a0 _ q1;simp only at hea q2;refine arE hpe as _ _ _ (fun c hc=>hap c (by simp[hc])) (fun s hs=>(yb (hA.rb s hs) _).trans (ht s hs)) (fun hal=>?_) (fun c hc=>hn c (by simp[hc])) (fun c hc=>hfar c (by simp[hc])) (fun h1 x hx id hi=>?_) q2
   ·refine(XJ fun p hp hid=>?_).trans (hbd hal);rcases hea p hp with⟨h2,h3⟩|⟨h2,h3⟩
    ·exact hn a (by simp) h3 hal (h2.symm.trans hid)
    ·exact hal1 p.1 h3 (by rw[hid]; exact hbd hal)
   ·by_cases hin:∃p∈ea,p.1=id
    ·obtain⟨p,hp,hid⟩:=hin;rcases hea p hp with⟨h2,h3⟩|⟨h2,h3⟩
     ·exfalso;exact hf1 h3 x hx (by rw[hx0 x hx,←h2,hid]; exact hi)
     ·exact .inr ⟨(a.1,_),List.mem_cons_self ..,⟨a.2.2,hA.ha,pJ.2 (.inl ⟨h2,h1⟩),hA.bab,hA.bba⟩,hid▸h3⟩
    ·have hne:lkB (aps ea h) id=lkB h id:=XJ fun p hp hid=>hin ⟨p,hp,hid⟩;rw[hne];rcases hinv h1 x hx id hi with h2|⟨p,hp,h2⟩
     ·exact .inl h2
     ·exact .inr ⟨p,by simp[hp],h2⟩
section
variable {ν:Nat→Value} {w:World}
def VR0.refs {a:AV} {v:Value} (hv:VR0 ν h w a v):∀id∈ĭ a,lkB h id≠.dead:=by
 intro id hi hd
 cases a<;>simp only[ĭ,dk,gc] at hi
 ·subst hi; obtain⟨_,t,g',fz,xs,hl,_⟩:=hv; rw[hd] at hl; cases hl
 ·subst hi; obtain⟨_,t,g',fz,xs,hl,_⟩:=hv; rw[hd] at hl; cases hl
 ·subst hi; obtain⟨_,t,g',fz,hl,_⟩:=hv; rw[hd] at hl; cases hl
 ·subst hi; obtain⟨_,_,hl,_⟩:=hv; rw[hd] at hl; cases hl
 ·subst hi; obtain⟨_,t,g',fz,xs,hl,_⟩:=hv; rw[hd] at hl; cases hl
 ·subst hi; obtain⟨_,k,g',xss,hl,_⟩:=hv; rw[hd] at hl; cases hl
 ·subst hi; obtain⟨_,k,g',xss,hl,_⟩:=hv; rw[hd] at hl; cases hl
 ·subst hi; obtain⟨_,k,g',xss,hl,_⟩:=hv; rw[hd] at hl; cases hl
 ·subst hi; obtain⟨_,k,g',xss,hl,_⟩:=hv; rw[hd] at hl; cases hl
def VR1.refs {a:AV} {v:Value} (hv:VR1 ν h w a v):∀id∈ĭ a,lkB h id≠.dead:=by
 cases hf:a.isFn with
 |true=>cases a<;>first|(cases hf; done)|(intro id hi; cases hi)
 |false=>rw[Tq hf] at hv; exact hv.refs
def Ć.left_mem {α β:Type} {R:α→β→Prop}:∀{l:List α} {m:List β},Ć R l m→∀a∈l,∃b∈m,R a b
 |[],_,_,a,ha=>by cases ha
 |x::l,y::m,h,a,ha=>by
  rcases di.1 ha with rfl|ha
  ·exact⟨y,by simp,h.1⟩
  ·obtain⟨b,hb,hr⟩:=Ć.left_mem h.2 a ha;exact⟨b,by simp[hb],hr⟩
 |_::_,[],h,_,_=>h.elim
def VR.refs1 {a:AV} {v:Value} (hv:VR ν h w a v):∀id∈Go.Am.refs1 a,lkB h id≠.dead:=by
 cases hag:a.isAgg with
 |true =>
  cases a<;>try cases hag
  obtain⟨us,_,h2⟩:=hv;intro id hi;simp only[Go.Am.refs1,dC] at hi;obtain⟨c,hc,hi⟩:=hi;obtain⟨u,_,hu⟩:=h2.left_mem c hc;exact hu.1.refs id hi
 |false =>
  cases htu:a.isTup with
  |true=>cases a<;>first|(cases htu; done)|(intro id hi; cases hi)
  |false =>
   have h1:=hv.one hag htu;have h2:=h1.refs
   cases a with
   |fn f fa fb =>
    obtain⟨fs,cs,_,h3,h4⟩:=h1
    have one:∀c u,VR0 ν h w c u→∀id∈amh c,lkB h id≠.dead:=fun c u hu id hi=>by
     cases c with
     |agg=>exact hu.elim
     |_=>exact hu.refs id hi
    intro id hi;simp only[Go.Am.refs1,dh,dC] at hi;rcases hi with⟨c,hc,hi⟩|⟨c,hc,hi⟩
    ·obtain⟨u,_,hu⟩:=h3.left_mem c hc;exact one c u hu id hi
    ·obtain⟨u,_,hu⟩:=h4.left_mem c hc;exact one c u hu id hi
   |agg=>cases hag
   |_=>exact h2
def VR.refs2 (H:HR ν h w) {a:AV} {v:Value} (hv:VR ν h w a v):∀id∈Go.Am.refs2 h a,lkB h id≠.dead:=by
 intro id hi;simp only[Go.Am.refs2,dh,dC] at hi;rcases hi with hi|⟨j,hj,c,hc,hi⟩
 ·exact hv.refs1 id hi
 ·have hB:=H.blk j
  cases hl:lkB h j with
  |cells cs =>
   rw[hl] at hB hc;obtain⟨b,arr,e,_,_,h3⟩:=hB;obtain⟨u,_,hu⟩:=h3.left_mem c hc;exact hu.1.refs id hi
  |_=>rw[hl] at hc; cases hc
end
end
end Go.Am
end

noncomputable section
namespace Go.Am
variable [ô]
section
variable {ρ:Type} {ν:Nat→Value} {h:List Blk} {w:World}
def aou (acc:List Nat) (o:Oper):Nat:=o.after.toList.foldl (fun s e=>if Region.binds .any e then s ||| 2 ^ e.on ||| acc.getD e.on 0 else s) 0
def Ld:∀(os:List Oper) (acc:List Nat),∃l,Ž os acc=acc++l∧∀(k:Nat) (o:Oper),os[k]?=some o→(acc++l).getD (acc.length+k) 0=aou ((acc++l).take (acc.length+k)) o
 |[],acc=>⟨[],by simp[Ž],by simp⟩
 |o::os,acc=>by
  obtain⟨l,h1,h2⟩:=Ld os (acc++[aou acc o]);refine⟨aou acc o::l,?_,?_⟩
  ·simp only[Ž];show Ž os (acc++[aou acc o])=_;rw[h1]; simp
  ·intro k o' hk
   cases k with
   |zero =>
    simp only[fk,Option.some.injEq] at hk;subst hk;simp[List.getD]
   |succ k =>
    have:=h2 k o' (by simpa using hk);simp only[dz,List.singleton_append,dc,dK] at this;rw[show acc.length+(k+1)=acc.length+1+k by omega];exact this
def aot {os:List Oper} {k:Nat} {o:Oper} (hk:os[k]?=some o):(Ž os []).getD k 0=aou ((Ž os []).take k) o:=by
 obtain⟨l,h1,h2⟩:=Ld os [];rw[h1];simpa using h2 k o hk
def aa9 {acc:List Nat} {i:Nat}:∀(es:List Edge) (s:Nat),(es.foldl (fun s e=>if Region.binds .any e then s ||| 2 ^ e.on ||| acc.getD e.on 0 else s) s).testBit i=true →
 s.testBit i=true∨∃e∈es,Region.binds .any e=true∧(i=e.on∨(acc.getD e.on 0).testBit i=true)
 |[],s,h=>.inl h
 |e::es,s,h=>by
  simp only[fU] at h;rcases aa9 es _ h with h1|⟨e',hm,h1⟩
  ·split at h1
   ·rename_i hb;simp only[Nat.testBit_or,Bool.or_eq_true,Nat.testBit_two_pow,decide_eq_true_eq] at h1;rcases h1 with(h1|h1)|h1
    ·exact .inl h1
    ·exact .inr ⟨e,by simp,hb,.inl h1.symm⟩
    ·exact .inr ⟨e,by simp,hb,.inr h1⟩
   ·exact .inl h1
  ·exact .inr ⟨e',by simp[hm],h1⟩
def Ar {E:Env ρ} {all:List Oper} {bef:List Nat}:∀{bs:List Oper} {j0:Nat},Bp E all bef bs j0=true→∀(k:Nat) (b:Oper),bs[k]?=some b→∀(i:Nat) (a:Oper),i<j0+k→all[i]?=some a→aqA E all a b=false∨(bef.getD (j0+k) 0).testBit i=true
 |[],_,_,k,b,hk,_,_,_,_=>by simp at hk
 |x::bs,j0,h,k,b,hk,i,a,hi,ha=>by
  simp only[Bp,cZ,dN,List.mem_range] at h
  cases k with
  |zero =>
   simp only[fk,Option.some.injEq] at hk;subst hk;have:=h.1 i (by omega);rw[ha] at this;simp only[Bool.or_eq_true,eO] at this;simpa using this
  |succ k =>
   have:=Ar h.2 k b (by simpa using hk) i a (by omega) ha
   rwa [show j0+1+k=j0+(k+1) by omega] at this
def wY:∀{os:List Oper} {j:Nat},afS os j=true→∀(k:Nat) (o:Oper),os[k]?=some o→∀e∈o.after,Region.binds .any e=true→e.on<j+k
 |[],_,_,k,o,hk,_,_,_=>by simp at hk
 |x::os,j,h,k,o,hk,e,he,hb=>by
  simp only[afS,cZ,dN] at h
  cases k with
  |zero =>
   simp only[fk,Option.some.injEq] at hk;subst hk;have:=h.1 e (by simpa using he);simp only[hb,eJ,Bool.false_or,decide_eq_true_eq] at this;omega
  |succ k =>
   have:=wY h.2 k o (by simpa using hk) e he hb;omega
def bef_lt {os:List Oper} (hb:afS os 0=true):∀(j i:Nat),((Ž os []).getD j 0).testBit i=true→i<j:=by
 intro j
 induction j using Nat.strongRecOn with
 |ind j ih =>
  intro i hi
  cases ho:os[j]? with
  |none =>
   obtain⟨l,h1,_⟩:=Ld os []
   have hlen:∀(os:List Oper) (acc:List Nat),(Ž os acc).length=acc.length+os.length:=by
    intro os
    induction os with
    |nil=>intro acc; simp[Ž]
    |cons o os ih=>intro acc; simp only[Ž]; rw[ih]; simp; omega
   have:(Ž os [])[j]?=none:=by
    rw[List.getElem?_eq_none_iff] at ho ⊢;rw[hlen]; simpa using ho
   simp[List.getD,this] at hi
  |some o =>
   rw[aot ho] at hi;rcases aa9 _ _ hi with hz|⟨ed,h1,h2,h3⟩
   ·simp at hz
   ·have hlt:=wY hb j o ho ed (by simpa using h1) h2;rw[du] at hlt;rcases h3 with rfl|h3
    ·exact hlt
    ·have:((Ž os []).getD ed.on 0).testBit i=true:=by
      rw[←h3];congr 1;simp only[List.getD,eG];rw[if_pos (by omega)]
     exact Nat.lt_trans (ih ed.on hlt i this) hlt
def qx {clone:Nat→Bool}:∀{os:List Oper} {i nid:Nat} {x:Item},x∈oE clone os i nid→∃k,os[k]?=some x.2.2∧x.1=i+k∧nid≤x.2.1∧(Ď clone x.2.2.op=true→x.2.1<nid+iG clone os)
 |[],_,_,_,hx=>by cases hx
 |o::os,i,nid,x,hx=>by
  simp only[oE,di] at hx;rcases hx with rfl|hx
  ·exact⟨0,by simp,rfl,cY _,fun h=>by rw[nD]; simp only at h; rw[h]; simp⟩
  ·obtain⟨k,h1,h2,h3,h4⟩:=qx hx;refine⟨k+1,by simpa using h1,by omega,?_,fun h=>?_⟩
   ·cases hal:Ď clone o.op<;>rw[hal] at h3<;>simp at h3<;>omega
   ·have:=h4 h;rw[nD]
    cases hal:Ď clone o.op<;>rw[hal] at this<;>simp at this ⊢<;>omega
def HB {clone:Nat→Bool}:∀{os:List Oper} {i nid k:Nat} {o:Oper},os[k]?=some o→∃n,(i+k,n,o)∈oE clone os i nid
 |[],_,_,k,_,h=>by simp at h
 |x::os,i,nid,0,o,h=>by
  simp only[fk,Option.some.injEq] at h;subst h;exact⟨nid,by simp[oE]⟩
 |x::os,i,nid,k+1,o,h=>by
  obtain⟨n,hn⟩:=HB (clone:=clone) (i:=i+1) (nid:=bif Ď clone x.op then nid+1 else nid) (os:=os) (k:=k) (o:=o) (by simpa using h);exact⟨n,by simp only[oE,di]; right; rwa [show i+(k+1)=i+1+k by omega]⟩
def KL {clone:Nat→Bool}:∀{os:List Oper} {i nid:Nat},(oE clone os i nid).Pairwise fun x y=>x.1<y.1∧(Ď clone x.2.2.op=true→x.2.1<y.2.1)
 |[],_,_=>List.Pairwise.nil
 |o::os,i,nid=>by
  refine List.Pairwise.cons (fun y hy=>?_) KL;obtain⟨k,_,h2,h3,_⟩:=qx hy;refine⟨by simp only; omega,fun hal=>?_⟩;simp only at hal;rw[hal] at h3;simp at h3 ⊢;omega
def akQ {l:List Item} {p p':Item→Bool} {b:Item} (hp:l.Pairwise fun x y=>x.1<y.1) (hb:b∈l) (hpb:p b=true) (hpp:∀x∈l,p' x=(p x&&x.1 != b.1)) :
 ∃as rest,l.filter p=as++b::rest∧l.filter p'=as++rest∧∀a∈as,a∈l∧p a=true∧a.1<b.1:=by
 obtain⟨l1,l2,rfl⟩:=List.append_of_mem hb;rw[List.pairwise_append] at hp;obtain⟨_,h2,h3⟩:=hp;have h1:∀x∈l1,x.1<b.1:=fun x hx=>h3 x hx b (by simp);have h4:∀x∈l2,b.1<x.1:=fun x hx=>(dS.1 h2).1 x hx;refine⟨l1.filter p,l2.filter p,by simp[hpb],?_,fun a ha=>?_⟩
 ·have e1:l1.filter p'=l1.filter p:=List.filter_congr fun x hx=>by
   rw[hpp x (by simp[hx])]
   have:(x.1 != b.1)=true:=by have:=h1 x hx; simp; omega
   rw[this]; simp
  have e2:l2.filter p'=l2.filter p:=List.filter_congr fun x hx=>by
   rw[hpp x (by simp[hx])]
   have:(x.1 != b.1)=true:=by have:=h4 x hx; simp; omega
   rw[this]; simp
  have e3:p' b=false:=by rw[hpp b (by simp)]; simp
  simp[e1,e2,e3]
 ·rw[d8] at ha;exact⟨by simp[ha.1],ha.2,h1 a ha.1⟩
def aiK {α:Type} {R:α→α→Prop}:∀{l:List α},l.Pairwise R→∀x∈l,∀y∈l,x=y∨R x y∨R y x
 |[],_,_,hx,_,_=>by cases hx
 |z::l,h,x,hx,y,hy=>by
  rw[dS] at h;rcases di.1 hx with hx|hx
  ·rcases di.1 hy with hy|hy
   ·exact .inl (hx.trans hy.symm)
   ·rw[hx]; exact .inr (.inl (h.1 y hy))
  ·rcases di.1 hy with hy|hy
   ·rw[hy]; exact .inr (.inr (h.1 x hx))
   ·exact aiK h.2 x hx y hy
def aqo {E:Env ρ} {call:List Nat→Bool→Nat→List AV→List Blk→(AV→List Blk→Option ρ)→Option ρ} {L:Nat} (hE:mo E L call) {fid:Nat} {path:List Nat} {ops:Array Oper} (hp:path.length+1=L) (hg:sr ops.toList ops.toList=true)
 (hd:anD E ops.toList=true) {base:Nat} {K:St→Option ρ} {r:ρ} {Q:Exit→Act→World→Prop} {m:Nat} (hmb:m≤base) :
 ∀(fuel:Nat) (listed:Array Bool) (acc:List (Nat×List Nat)) (S:St) (a:Act) (ν:Nat→Value) (w:World),listed.size=ops.size →
  (∀j i,listed.getD j false=true→((Ž ops.toList []).getD j 0).testBit i=true→listed.getD i false=true) →
  ((oE E.clone ops.toList 0 base).filter fun x=>!listed.getD x.1 true).length=fuel→Sim ν S a w →
  (∀x∈(oE E.clone ops.toList 0 base).filter fun x=>!listed.getD x.1 true,Ď E.clone x.2.2.op=true→x.2.1<S.h.length∧lkB S.h x.2.1=.dead)→m≤S.h.length →
  aiD E call fid path ops.toList (Ž ops.toList []) ((oE E.clone ops.toList 0 base).filter fun x=>!listed.getD x.1 true) acc S K=some r →
  (∀ν' S' a' w',Sim ν' S' a' w'→Ev m ν S.h w ν' S'.h w'→m≤S'.h.length→Dd m S.h S'.h→K S'=some r→Q .normal a' w') →
  wpAnyIn fen 0 E.P .any ops Q fuel listed a w:=by
 simp only[anD,cZ] at hd;obtain⟨hback,hdr⟩:=hd
 have getD_tf:∀{listed:Array Bool} {j:Nat},listed.size=ops.size→j<ops.size→listed.getD j true=listed.getD j false:=fun {listed j} hs hj=>by
  have:j<listed.size:=by omega
  simp[this]
 have hpw:=(KL (clone:=E.clone) (os:=ops.toList) (i:=0) (nid:=base)).imp fun {x y} h=>h.1;intro fuel
 induction fuel with
 |zero =>
  intro listed acc S a ν w hsz hcl hlen H hdead hm e hQ;have hnil:=dw.1 hlen;refine⟨?_,?_⟩
  ·rw[List.eq_nil_iff_forall_not_mem];intro j hj;obtain⟨h0,o,ho,_⟩:=mem_ready.1 hj;obtain⟨n,hn⟩:=HB (clone:=E.clone) (i:=0) (nid:=base) (os:=ops.toList) (k:=j) (o:=o) (by simpa using ho);have:(0+j,n,o)∈(oE E.clone ops.toList 0 base).filter fun x=>!listed.getD x.1 true:=d8.2 ⟨hn,by simp only[du]; rw[h0]; rfl⟩;rw[hnil] at this;cases this
  ·rw[hnil] at e;exact hQ ν S a w H (Ev.refl _ _ _ _) hm (Dd.refl _ _) e
 |succ fuel ih =>
  intro listed acc S a ν w hsz hcl hlen H hdead hm e hQ;refine⟨fun hr=>?_,fun j hj=>?_⟩
  ·-- the first of those that are left is ready
   exfalso
   cases hrem:(oE E.clone ops.toList 0 base).filter fun x=>!listed.getD x.1 true with
   |nil=>rw[hrem] at hlen; simp at hlen
   |cons x l =>
    have hx:x∈(oE E.clone ops.toList 0 base).filter fun x=>!listed.getD x.1 true:=by rw[hrem]; simp
    rw[d8] at hx;obtain⟨k,h1,h2,_⟩:=qx hx.1
    have hk:x.1=k:=by omega
    have hready:x.1∈Region.ready .any ops listed:=mem_ready.2 ⟨by simpa using hx.2,x.2.2,by rw[hk]; simpa using h1,fun ed hed hb=>by
     have hlt:=wY hback k x.2.2 h1 ed hed hb
     have hks:k<ops.size:=by
      have:=(df.1 h1).1;simpa using this
     cases hl:listed.getD ed.on false with
     |true=>rfl
     |false =>
      exfalso;obtain⟨o',ho'⟩:∃o',ops.toList[ed.on]?=some o':=⟨_,cX (by simp; omega)⟩;obtain⟨n,hn⟩:=HB (clone:=E.clone) (i:=0) (nid:=base) ho'
      have hin:(0+ed.on,n,o')∈x::l:=by
       rw[←hrem];refine d8.2 ⟨hn,?_⟩;simp only[du];rw[getD_tf hsz (by omega),hl];rfl
      have hpl:(x::l).Pairwise fun x y=>x.1<y.1:=by rw[←hrem]; exact hpw.filter _
      rcases di.1 hin with h3|h3
      ·rw[←h3] at hk; simp at hk; omega
      ·have:=(dS.1 hpl).1 _ h3
       simp only at this; omega⟩
    rw[hr] at hready;cases hready
  ·obtain⟨h0,o,ho,hed⟩:=mem_ready.1 hj;have hjs:j<ops.size:=(eD.1 ho).1
   have hol:ops.toList[j]?=some o:=by simpa using ho
   obtain⟨n,hn⟩:=HB (clone:=E.clone) (i:=0) (nid:=base) hol;rw[du] at hn
   have hpp:∀x∈oE E.clone ops.toList 0 base,(fun x:Item=>!(listed.setIfInBounds j true).getD x.1 true) x=((fun x:Item=>!listed.getD x.1 true) x&&x.1 != j):=fun x hx=>by
    by_cases hxj:x.1=j
    ·simp only[hxj]
     have:j<listed.size:=by omega
     simp[this]
    ·have h1:(listed.setIfInBounds j true).getD x.1 true=listed.getD x.1 true:=getD_set_ne true (Ne.symm hxj)
     have h2:(x.1 != j)=true:=by simpa using hxj
     simp only[h1,h2,fB]
   obtain⟨as,rest,f1,f2,f3⟩:=akQ (b:=(j,n,o)) hpw hn (by simp only[h0]; rfl) hpp
   have hbit:∀i,((Ž ops.toList []).getD j 0).testBit i=true→listed.getD i false=true:=fun i hi=>by
    rw[aot hol] at hi;rcases aa9 _ _ hi with hz|⟨ed,h1,h2,h3⟩
    ·simp at hz
    ·have hl:=hed ed (by simpa using h1) h2;rcases h3 with rfl|h3
     ·exact hl
     ·refine hcl ed.on i hl ?_;have hlt:=wY hback j o hol ed (by simpa using h1) h2;rw[←h3];congr 1;simp only[List.getD,eG];rw[if_pos (by omega)]
   have hpairs:=KL (clone:=E.clone) (os:=ops.toList) (i:=0) (nid:=base)
   have hmemj:((j,n,o):Item)∈(oE E.clone ops.toList 0 base).filter fun x=>!listed.getD x.1 true:=by rw[f1]; simp
   have hne:∀x∈(oE E.clone ops.toList 0 base).filter (fun x=>!listed.getD x.1 true),x≠(j,n,o)→Ď E.clone x.2.2.op=true→Ď E.clone o.op=true→x.2.1≠n:=fun x hx hxj h1 h2=>by
    have hsub:((oE E.clone ops.toList 0 base).filter fun x=>!listed.getD x.1 true).Pairwise fun x y=>x.1<y.1∧(Ď E.clone x.2.2.op=true→x.2.1<y.2.1):=hpairs.filter _;rcases aiK hsub x hx _ hmemj with he|hr|hr
    ·exact absurd he hxj
    ·exact fJ (hr.2 h1)
    ·exact(fJ (hr.2 h2)).symm
   rw[f1] at e
   have e':=arE (b:=(j,n,o)) (h0:=S.h) (t0:=S.t) (K:=K) (r:=r) hE.pureEq as acc S.t S.h (fun x hx=>by
    obtain⟨g1,g2,g3⟩:=f3 x hx;obtain⟨k,h1,h2,_⟩:=qx g1
    have hk:x.1=k:=by omega
    have hkj:k<j:=by simp only at g3; omega
    have hnb:((Ž ops.toList []).getD j 0).testBit k=false:=by
     cases hb:((Ž ops.toList []).getD j 0).testBit k with
     |false=>rfl
     |true =>
      exfalso;have hl:=hbit k hb;simp only[eO] at g2;rw[getD_tf hsz (by omega),hk,hl] at g2;cases g2
    have hnb2:((Ž ops.toList []).getD k 0).testBit j=false:=by
     cases hb:((Ž ops.toList []).getD k 0).testBit j with
     |false=>rfl
     |true=>have:=bef_lt hback k j hb; omega
    have:=Ar hdr j o hol k x.2.2 (by omega) h1;rw[du,hnb] at this;rw[←hk] at h1 hnb hnb2
    exact ahR (this.resolve_right (by simp)) h1 hol hnb hnb2)
    (fun _ _=>rfl)
    (fun hal=>(hdead _ hmemj hal).2)
    (fun x hx h1 h2=>hne x (by rw[f1]; simp[hx]) (fun he=>by
     have:=(f3 x hx).2.2;rw[he] at this
     simp at this) h1 h2)
    (fun x hx h1 y hy hmem=>VR.refs2 H.heap (ń H y) _ hmem ((hdead x (by rw[f1]; simp[hx]) h1).2)) (fun _ _ _ _ _=>.inl rfl) e
   simp only[aiD,xK] at e'
   split at e'<;>try (cases e'; done)
   refine Oz hE.call hE.plain hE.clone hg hp ho H (fun hal=>hdead _ hmemj hal) e' fun ν' w' u v S' g1 g2 g3 g4 g5 g6 g7=>?_;have hrem:((oE E.clone ops.toList 0 base).filter fun x=>!(listed.setIfInBounds j true).getD x.1 true)=as++rest:=f2
   have hin:∀x∈as++rest,x∈(oE E.clone ops.toList 0 base).filter fun x=>!listed.getD x.1 true:=fun x hx=>by
    rw[f1]
    rcases dh.1 hx with hx|hx<;>simp[hx]
   have hnj:∀x∈as++rest,x≠(j,n,o):=fun x hx he=>by
    rw[←hrem,d8] at hx;rw[he] at hx
    have hlt:j<listed.size:=by omega
    simp[hlt] at hx
   have hm':m≤S'.h.length:=dG hm g4;refine ih (listed.setIfInBounds j true) ((j,xT E ops.toList o S)::acc) {t:=ý S'.t o.dst v,h:=S'.h} _ ν' w' (by simpa using hsz) (fun j' i h1 h2=>?_) ?_ ?_ (fun x hx hal=>?_) hm' ?_ fun ν'' S'' a'' w'' q1 q2 q3 q4 q5=>hQ ν'' S'' a'' w'' q1 ((g3.mono hm).trans q2 (cY _)) q3 (fun i hi hdi=>q4 i hi ?_) q5
   ·by_cases hjj:j=j'
    ·subst hjj;exact getD_set_true (hbit i h2)
    ·rw[getD_set_ne false hjj] at h1;exact getD_set_true (hcl j' i h1 h2)
   ·rw[hrem];rw[f1] at hlen;simp only[dc,dj] at hlen ⊢;omega
   ·rw[g6];exact H.put g3 g2 o.dst g1
   ·rw[hrem] at hx;obtain⟨h1,h2⟩:=hdead x (hin x hx) hal;refine⟨by simp only; omega,g5 _ h1 ?_ h2⟩
    by_cases hob:Ď E.clone o.op=true
    ·exact .inl (hne x (hin x hx) (hnj x hx) hal hob)
    ·exact .inr (by simpa using hob)
   ·rw[hrem];exact g7
   ·refine g5 i (by omega) ?_ hdi
    by_cases hob:Ď E.clone o.op=true
    ·left;obtain⟨k,_,_,h3,_⟩:=qx hn;simp only at h3;show i≠n;omega
    ·exact .inr (by simpa using hob)
def EG {E:Env ρ} (hmix:E.P.follows .mixedOrders=true) (L:Nat) (call:List Nat→Bool→Nat→List AV→List Blk→(AV→List Blk→Option ρ)→Option ρ) (hE:mo E L call):mE E L call:=by
 intro fid rid path ops S a K r m ν w hp e H hm;unfold OJ at e
 split at e<;>try (cases e; done)
 rename_i hg;simp only[dV,fI,fe] at hg;apply wpIn_region_any hmix;have hpre:=fun id=>aaX S.h (iG E.clone ops.toList) id;have H1:Sim ν {t:=S.t,h:=S.h++List.replicate (iG E.clone ops.toList) .dead} a {w with drawn:=w.drawn+1}:=H.same hpre rfl rfl rfl rfl;have ev0:Ev m ν S.h w ν (S.h++List.replicate (iG E.clone ops.toList) .dead) {w with drawn:=w.drawn+1}:=Ev.same (w:=w) (w':={w with drawn:=w.drawn+1}) hpre rfl rfl rfl rfl m
 have hall:((oE E.clone ops.toList 0 S.h.length).filter fun x=>!(Array.replicate ops.size false).getD x.1 true)=oE E.clone ops.toList 0 S.h.length:=by
  rw[List.filter_eq_self];intro x hx;obtain⟨k,h1,h2,_⟩:=qx hx
  have hlt:k<ops.size:=by
   have:=(df.1 h1).1;simpa using this
  have:x.1=k:=by omega
  simp[this,hlt]
 have hlen:∀(os:List Oper) (i nid:Nat),(oE E.clone os i nid).length=os.length:=by
  intro os
  induction os with
  |nil=>intros; rfl
  |cons o os ih=>intro i nid; simp[oE,ih]
 refine aqo (fid:=fid) (base:=S.h.length) (K:=K .normal) (r:=r) hE hp hg.2 hg.1 hm ops.size _ [] {t:=S.t,h:=S.h++List.replicate (iG E.clone ops.toList) .dead} a ν _ (by simp) (fun j i h1 _=>?_) ?_ H1 (fun x hx hal=>?_) ?_ ?_ fun ν' S' a' w' g1 g2 g3 g4 g5=>⟨ν',S',g1,ev0.trans g2 (cY _),g3,fun j hj hd=>g4 j hj (by simp only[hpre]; exact hd),g5⟩
 ·exfalso;rcases dA j ops.size with h|h
  ·simp[h] at h1
  ·simp[h] at h1
 ·rw[hall,hlen]; simp
 ·rw[hall] at hx;obtain⟨k,_,_,h3,h4⟩:=qx hx;have:=h4 hal;refine⟨by simp; omega,?_⟩;simp only[hpre];exact W6 _ _ h3
 ·simp; omega
 ·rw[hall,←acY];exact e
end
end Go.Am
end

noncomputable section
namespace Go.Am
variable [ô]
section
variable {ρ:Type} {ν ν':Nat→Value} {h h':List Blk} {w w':World} {P:Program}
structure Ú (ρ:Type) where
 path:List Nat
 fid:Nat
 bid:Nat
 L:Æ
 bF:Val (tyL L.cs)→Val (tyL L.vs)→(Val (tyL L.vs)→Option ρ)→((i:Nat)→Val (tyL (L.zs i))→Option ρ)→Option ρ
def eqL:List Nat→List Nat→Bool
 |[],[]=>true
 |a::l,b::m=>Nat.beq a b&&eqL l m
 |_,_=>false
def anu (S:St):List (Ú ρ)→List Nat→Nat→Nat→Option (Ú ρ)
 |[],_,_,_=>none
 |x::l,path,fid,bid=>match Nat.beq x.bid bid&&(Nat.beq x.fid fid&&(eqL x.path path&&fitsS x.L S)) with
  |true=>some x
  |false=>anu S l path fid bid
def sn (tab:List (Ú ρ)) (path:List Nat) (fid bid m:Nat) (S:St) (K:Exit→St→Option ρ):Option ρ :=
 match anu S tab path fid bid with
 |some x=>agr x.L x.bF m S K
 |none=>none
structure JEnt where
 path:List Nat
 fid:Nat
 rid:Nat
 pin:Nat
 tpl:Tpl
 vs:List Ty
def akP:List (Nat×Ô)→Nat→Option Ô
 |[],_=>none
 |x::l,f=>match Nat.beq x.1 f with
  |true=>some x.2
  |false=>akP l f
def KO:List (Nat×Nat)→Nat→Option Nat
 |[],_=>none
 |x::l,s=>match Nat.beq x.1 s with
  |true=>some x.2
  |false=>KO l s
def sH (P:Program) (f:Nat):Option Code :=
 match P.funcs[f]? with
 |some fn=>fn.body
 |none=>none
structure Ú.Ok (E:Env ρ) (x:Ú ρ):Prop where
 one:(((sH E.P x.fid).elim [] (î 0)).filter fun y=>Nat.beq y.1 x.bid).length=1
 law:∀p v kn kx,goC E (ks E (10-x.path.length / 2)) x.fid x.path x.L.pin x.bid (L3 (sH E.P x.fid) x.bid) (jp x.L.head x.L.cs x.L.vs p v) (ab8 x.L kn kx)=x.bF p v (kn p) (fun i=>kx i p)
omit [ô] in
def anw:∀{l m:List Nat},eqL l m=true→l=m
 |[],[],_=>rfl
 |a::l,b::m,h=>by
  simp only[eqL,cZ] at h;rw[dn h.1,anw h.2]
 |[],_::_,h=>by cases h
 |_::_,[],h=>by cases h
omit [ô] in
def Xs:∀{tab:List (Ú ρ)} {path:List Nat} {fid bid:Nat} {S:St} {x:Ú ρ},anu S tab path fid bid=some x→x∈tab∧x.path=path∧x.fid=fid∧x.bid=bid
 |[],_,_,_,_,_,h=>by cases h
 |y::tab,path,fid,bid,S,x,h=>by
  unfold anu at h
  split at h
  ·rename_i hb;simp only[cZ] at hb;cases h;exact⟨by simp,anw hb.2.2.1,dn hb.2.1,dn hb.1⟩
  ·obtain⟨h1,h2⟩:=Xs h;exact⟨by simp[h1],h2⟩
omit [ô] in
def Xr:∀{tab:List (Nat×Ô)} {f:Nat} {p:Ô},akP tab f=some p→(f,p)∈tab
 |[],_,_,h=>by cases h
 |y::tab,f,p,h=>by
  unfold akP at h
  split at h
  ·rename_i hb;cases h;rw[←dn hb]; simp
  ·exact gA _ (Xr h)
omit [ô] in
def iN:∀(c:Code) (b0:Nat) {bid:Nat} {b:Code},(bid,b)∈î b0 c→∀y∈î bid b,y∈î b0 c
 |.seq c d,b0,bid,b,h,y,hy=>by
  simp only[î,dh] at h ⊢;exact h.imp (fun h=>iN c b0 h y hy) (fun h=>iN d b0 h y hy)
 |.cond _ c d,b0,bid,b,h,y,hy=>by
  simp only[î,dh] at h ⊢;exact h.imp (fun h=>iN c b0 h y hy) (fun h=>iN d b0 h y hy)
 |.block id c,b0,bid,b,h,y,hy=>by
  simp only[î] at h ⊢;exact iN c id h y hy
 |.loop c,b0,bid,b,h,y,hy=>by
  simp only[î,di,Prod.mk.injEq] at h ⊢;rcases h with⟨rfl,rfl⟩|h
  ·exact .inr hy
  ·exact .inr (iN c b0 h y hy)
 |.skip,_,_,_,h,_,_=>by cases h
 |.region ..,_,_,_,h,_,_=>by cases h
 |.exit _,_,_,_,h,_,_=>by cases h
 |.ret,_,_,_,h,_,_=>by cases h
 |.label _,_,_,_,h,_,_=>by cases h
 |.goto _,_,_,_,h,_,_=>by cases h
 |.rangeFunc ..,_,_,_,h,_,_=>by cases h
 |.scope c,b0,bid,b,h,y,hy=>by
  simp only[î] at h ⊢;exact iN c b0 h y hy
 |.refuse _,_,_,_,h,_,_=>by cases h
omit [ô] in
def iC:∀(c:Code) (b0:Nat) {bid:Nat} {b:Code},(bid,b)∈î b0 c→SizeOf.sizeOf b<SizeOf.sizeOf c
 |.seq c d,b0,bid,b,h=>by
  simp only[î,dh] at h;rcases h with h|h
  ·have:=iC c b0 h; simp; omega
  ·have:=iC d b0 h; simp; omega
 |.cond _ c d,b0,bid,b,h=>by
  simp only[î,dh] at h;rcases h with h|h
  ·have:=iC c b0 h; simp; omega
  ·have:=iC d b0 h; simp; omega
 |.block id c,b0,bid,b,h=>by
  have:=iC c id h; simp; omega
 |.loop c,b0,bid,b,h=>by
  simp only[î,di,Prod.mk.injEq] at h;rcases h with⟨rfl,rfl⟩|h
  ·simp
  ·have:=iC c b0 h; simp; omega
 |.skip,_,_,_,h=>by cases h
 |.region ..,_,_,_,h=>by cases h
 |.exit _,_,_,_,h=>by cases h
 |.ret,_,_,_,h=>by cases h
 |.label _,_,_,_,h=>by cases h
 |.goto _,_,_,_,h=>by cases h
 |.rangeFunc ..,_,_,_,h=>by cases h
 |.scope c,b0,bid,b,h=>by
  have:=iC c b0 h; simp; omega
 |.refuse _,_,_,_,h=>by cases h
def Hx {E:Env ρ} {tab:List (Ú ρ)} (hE:E.loops=sn tab) (hok:∀x∈tab,x.Ok E) {n:Nat} (hn:n≤10) (hEnv:mo E (22-2*n) (ks E n)) (hD:mE E (22-2*n) (ks E n))
 {path:List Nat} {f:Nat} {fn:Func} {c:Code} (hp:path.length+2=22-2*n) (hf:E.P.funcs[f]?=some fn) (hc:fn.body=some c):∀x∈î 0 c,qQ E path f x.1 x.2:=by
 have hbody:sH E.P f=some c:=by simp only[sH,hf,hc]
 have key:∀(N:Nat) (x:Nat×Code),SizeOf.sizeOf x.2<N→x∈î 0 c→qQ E path f x.1 x.2:=by
  intro N
  induction N with
  |zero=>intro x h; omega
  |succ N ih =>
   intro⟨bid,b⟩ hN hx;have hin:∀y∈î bid b,qQ E path f y.1 y.2:=fun y hy=>ih y (by have:=iC b bid (bid:=y.1) (b:=y.2) hy; simp only at hN; omega) (iN c 0 hx y hy);intro m S K r ν a w e H hm;rw[hE] at e;unfold sn at e
   cases hfe:anu S tab path f bid with
   |none =>
    rw[hfe] at e;cases e
   |some x =>
    obtain⟨h1,h2,h3,h4⟩:=Xs hfe;obtain⟨hone,hlaw⟩:=hok x h1;subst h3 h4;rw[hbody] at hone hlaw;simp only[Option.elim] at hone
    have hb:L3 (some c) x.bid=b:=by
     have hmem:(x.bid,b)∈(î 0 c).filter fun y=>Nat.beq y.1 x.bid:=List.mem_filter.2 ⟨hx,by simp⟩;obtain⟨z,hz⟩:=List.length_eq_one_iff.1 hone;rw[hz,List.mem_singleton] at hmem;unfold L3;simp only
     cases hfd:(î 0 c).find? fun y=>y.1==x.bid with
     |none =>
      have:=ew.1 hfd _ hx;simp at this
     |some y =>
      have hy1:=fG hfd;have hy2:=fL hfd;have:y∈(î 0 c).filter fun y=>Nat.beq y.1 x.bid:=d8.2 ⟨hy1,by simpa using hy2⟩;rw[hz,dk] at this;rw[this,←hmem]
    rw[hb] at hlaw
    have hd:10-x.path.length / 2=n:=by rw[h2]; omega
    rw[hd,h2] at hlaw;rw[←h2] at hlaw;rw[hfe] at e;exact ap1 (path:=x.path) Fw hEnv hD (by rw[h2]; omega) (by rw[h2]; exact hin) x.L x.bF (fun p v kn kx=>hlaw p v kn kx) e H hm
 exact fun x hx=>key _ x (Nat.lt_succ_self _) hx
def aid (E:Env ρ):Prop:=∀n,n≤10→mo E (22-2*n) (ks E n)→mE E (22-2*n) (ks E n)→∀(path:List Nat) (f:Nat) (fn:Func) (c:Code),path.length+2=22-2*n→E.P.funcs[f]?=some fn→fn.body=some c→∀x∈î 0 c,qQ E path f x.1 x.2
structure apb where
 path:List Nat
 fid:Nat
 bid:Nat
 n:Nat
def aqi:List apb→List Nat→Nat→Nat→Option apb
 |[],_,_,_=>none
 |x::l,path,fid,bid=>match Nat.beq x.bid bid&&(Nat.beq x.fid fid&&eqL x.path path) with
  |true=>some x
  |false=>aqi l path fid bid
def aeZ (E0:Env ρ) (us:List apb) (path:List Nat) (fid bid m:Nat) (S:St) (K:Exit→St→Option ρ):Option ρ :=
 match aqi us path fid bid with
 |some u=>XO (fun S K=>goC E0 (ks E0 (10-u.path.length / 2)) u.fid u.path m u.bid (L3 (sH E0.P u.fid) u.bid) S K) u.n S K
 |none=>E0.loops path fid bid m S K
omit [ô] in
def Xq:∀{tab:List apb} {path:List Nat} {fid bid:Nat} {x:apb},aqi tab path fid bid=some x→x∈tab∧x.path=path∧x.fid=fid∧x.bid=bid
 |[],_,_,_,_,h=>by cases h
 |y::tab,path,fid,bid,x,h=>by
  unfold aqi at h
  split at h
  ·rename_i hb;simp only[cZ] at hb;cases h;exact⟨by simp,anw hb.2.2,dn hb.2.1,dn hb.1⟩
  ·obtain⟨h1,h2⟩:=Xq h;exact⟨by simp[h1],h2⟩
def Ln {E:Env ρ} {call:List Nat→Bool→Nat→List AV→List Blk→(AV→List Blk→Option ρ)→Option ρ} {N:Nat} (hE:mo E N call) (hD:mE E N call) {fid bid m:Nat} {path:List Nat} (hpath:path.length+2=N) {b:Code}
 (hin:∀x∈î bid b,qQ E path fid x.1 x.2) {K:Exit→St→Option ρ} {r:ρ} {h₀:List Blk} {ν₀:Nat→Value} {w₀:World}:∀(n:Nat) (S:St) (ν:Nat→Value) (a:Act) (w:World),XO (fun S K=>goC E call fid path m bid b S K) n S K=some r→Sim ν S a w→m≤S.h.length→Ev m ν₀ h₀ w₀ ν S.h w→Dd m h₀ S.h →
  Code.roundsIn fen 0 E.P b (alE m ν₀ h₀ w₀ K r) n a w
 |0,S,ν,a,w,e,_,_,_,_=>by cases e
 |n+1,S,ν,a,w,e,H,hm,ev,dd=>by
  rw[roundsIn_succ];simp only[XO] at e;refine wpIn_mono (l7 hE hD hpath b bid S _ ν a w hin e H hm) fun x a₂ w₂ ha=>?_;obtain⟨ν₂,S₂,H2,ev2,hp2,dd2,hk⟩:=ha;have ev12:=ev.trans ev2 (cY m);have dd12:=dd.trans dd2 (cY m)
  cases x with
  |normal=>exact Ln hE hD hpath hin n S₂ ν₂ a₂ w₂ hk H2 hp2 ev12 dd12
  |exit id=>exact⟨ν₂,S₂,H2,ev12,hp2,dd12,hk⟩
  |ret=>exact⟨ν₂,S₂,H2,ev12,hp2,dd12,hk⟩
  |goto l=>exact⟨ν₂,S₂,H2,ev12,hp2,dd12,hk⟩
  |panic ch=>exact⟨ν₂,S₂,H2,ev12,hp2,dd12,hk⟩
  |outgrown=>exact⟨ν₂,S₂,H2,ev12,hp2,dd12,hk⟩
def amT {c:Code} {bid:Nat} {b:Code} (hone:((î 0 c).filter fun y=>Nat.beq y.1 bid).length=1) (hx:(bid,b)∈î 0 c):L3 (some c) bid=b:=by
 have hmem:(bid,b)∈(î 0 c).filter fun y=>Nat.beq y.1 bid:=List.mem_filter.2 ⟨hx,by simp⟩;obtain⟨z,hz⟩:=List.length_eq_one_iff.1 hone;rw[hz,List.mem_singleton] at hmem;unfold L3;simp only
 cases hfd:(î 0 c).find? fun y=>y.1==bid with
 |none =>
  have:=ew.1 hfd _ hx;simp at this
 |some y =>
  have hy1:=fG hfd;have hy2:=fL hfd;have:y∈(î 0 c).filter fun y=>Nat.beq y.1 bid:=d8.2 ⟨hy1,by simpa using hy2⟩;rw[hz,dk] at this;rw[this,←hmem]
def amV {E E0:Env ρ} (hD0:Flat) (hlib0:NL E0) (hP:E0.P=E.P) (hmix:E0.P.follows .mixedOrders=true) (hl0:aid E0) {us:List apb} (hE:E.loops=aeZ E0 us)
 (hone:∀u∈us,(((sH E.P u.fid).elim [] (î 0)).filter fun y=>Nat.beq y.1 u.bid).length=1) {n:Nat} (hn:n≤10)
 {path:List Nat} {f:Nat} {fn:Func} {c:Code} (hp:path.length+2=22-2*n) (hf:E.P.funcs[f]?=some fn) (hc:fn.body=some c):∀x∈î 0 c,qQ E path f x.1 x.2:=by
 have hdraw:∀L call,mo E0 L call→mE E0 L call:=EG hmix;have hcall:=ng (.inl hD0) hlib0 hdraw (fun n hn hEnv=>hl0 n hn hEnv (hdraw _ _ hEnv)) n hn
 have hEnv:mo E0 (22-2*n) (ks E0 n):=⟨by
  cases n with
  |zero=>exact .inl fun _ _ _ _ _ _=>rfl
  |succ n=>exact .inr (qN n),hcall,hlib0.plain,hlib0.clone,hlib0.joins⟩
 have hin:=hl0 n hn hEnv (hdraw _ _ hEnv) path f fn c hp (hP▸hf) hc
 have hbody:sH E.P f=some c:=by simp only[sH,hf,hc]
 intro⟨bid,b⟩ hx m S K r ν a w e H hm;rw[hE] at e;unfold aeZ at e
 split at e
 ·rename_i u hu;obtain⟨h1,h2,h3,h4⟩:=Xq hu
  have hd:10-u.path.length / 2=n:=by rw[h2]; omega
  have h5:=hone u h1;rw[h3,h4,hbody] at h5;rw[hd,h2,h3,h4,hP,hbody,amT h5 hx] at e;have:=Ln hEnv (hdraw _ _ hEnv) hp (fun y hy=>hin y (iN c 0 hx y hy)) u.n S ν a w e H hm (Ev.refl _ _ _ _) (Dd.refl _ _);rw[hP] at this;exact wpIn_loop_rounds u.n this
 ·have:=hin (bid,b) hx m S K r ν a w e H hm
  rwa [hP] at this
def Yj (H:HR ν h w) {c:AV} {u:Value} (hu:VR1 ν h w c u):VRs w ô.G (þ h c) u:=EP H (fun b hb=>.inr hb) hu fun id b _ hl hb=>H.ghne id b hl hb
def amp (H:HR ν h w) {id:Nat} {cs:List AV} (hl:lkB h id=.cells cs):(∀b,Ο (ν id) b→¬ô.G b)∧∀c∈cs,∀u,VR1 ν h w c u→VRs w ô.G (þ h c) u :=
 ⟨fun b hb=>H.ghne id b (by rw[hl]; rfl) hb,fun _ _ _ hu=>Yj H hu⟩
def Ć.up2:∀{as:List AV} {vs:List Value},Ć (Go.Am.VR2 ν h w) as vs→Ć (Go.Am.VR ν h w) as vs
 |[],[],_=>trivial
 |_::_,_::_,h=>⟨h.1.up,Ć.up2 h.2⟩
 |[],_::_,h=>h.elim
 |_::_,[],h=>h.elim
def X1 (H:HR ν h w):∀(l:List Ty) {x:Val (tyL l)} {v:AV} {u:Value},VR ν h w v u→arg l h v=some x→RR w ô.G l x u
 |[],_,_,_,_,e=>by cases e
 |[t],x,v,u,hv,e=>abE H hv (fun _ _ _ hu=>Yj H hu) (fun _ _ _ hl=>amp H hl) (fun id _ _ hl b hb=>H.ghne id b hl hb) e
 |t::u'::l,x,v,u,hv,e=>by
  cases v with
  |tup as =>
   obtain⟨us,rfl,h2⟩:=hv;exact⟨us,rfl,Tm H (u'::l) t x as us.toList h2.up2 (fun _ _ _ _ _ hu=>Yj H hu) (fun _ _ _ _ _ hl=>amp H hl) (fun _ _ id _ _ hl b hb=>H.ghne id b hl hb) e⟩
  |_=>cases e
def AT.mono {G G':Nat→Prop} (hm:∀b,G' b→G b):∀{l:List Ty} {t:Ty} {x:Val (tys t l)} {vs:List Value},AT w G l t x vs→AT w G' l t x vs
 |[],t,x,vs,⟨v,h1,h2⟩=>⟨v,h1,h2.mono hm⟩
 |u::l,t,x,vs,⟨v,vs',h1,h2,h3⟩=>⟨v,vs',h1,h2.mono hm,AT.mono hm h3⟩
def AL.mono {G G':Nat→Prop} (hm:∀b,G' b→G b):∀{l:List Ty} {x:Val (tyL l)} {vs:List Value},AL w G l x vs→AL w G' l x vs
 |[],_,_,h=>h
 |_::_,_,_,h=>AT.mono hm h
def AL.VR:∀{l:List Ty} {x:Val (tyL l)} {vs:List Value},AL w (Av ν h) l x vs→Ć (VR ν h w) (aft l x) vs
 |[],_,_,h=>by cases h; trivial
 |_::_,_,_,h=>AT.VR h
end
omit [ô] in
def aiI {f:Nat} {p:Ô} (E:Env (Val (tyL p.rs))) (hlib:∀[ô],NL E) (hmix:E.P.follows .mixedOrders=true) (hl:∀[ô],Flat→aid E) (law:X4 p E f):kw E.P f p:=by
 intro G x y hF w vals hG hAL
 letI:ô:=⟨G,[],none⟩
 have hL:=law x;rw[hF] at hL;unfold topK at hL;have hdraw:∀L call,mo E L call→mE E L call:=EG hmix;have hloops:=hl ⟨rfl,rfl⟩;have hcall:=ng (.inl ⟨rfl,rfl⟩) hlib hdraw (fun n hn hE=>hloops n hn hE (hdraw _ _ hE)) 10 (Nat.le_refl _);have hEnv:mo E (22-2*10) (ks E 10):=⟨.inr (qN 9),hcall,hlib.plain,hlib.clone,hlib.joins⟩;have H:HR (fun _=>undef) [] w:=⟨fun _=>trivial,fun _ _ _ h=>(by cases h),hG,fun _ _ h=>(by cases h)⟩;have hav:∀b,Av (fun _=>undef) [] b→G b:=fun b hb=>hb.elim (fun⟨_,h,_⟩=>by cases h) id;have hargs:Ć (VR (fun _=>undef) [] w) (aft p.ts x) vals:=AL.VR (hAL.mono hav);obtain⟨h1,h2⟩:=SJ hEnv (hdraw _ _ hEnv) (path:=[]) rfl ⟨rfl,rfl⟩ (fun fn c hf hc=>hloops 10 (Nat.le_refl _) hEnv (hdraw _ _ hEnv) [] f fn c rfl hf hc) hL H hargs;refine⟨h1,h2.mono fun e w' hw=>?_⟩;obtain⟨ν',h',v,u,rfl,g1,g2,g3,g4,g5,g6⟩:=hw;refine⟨u,rfl,X1 g2 _ g1 g6,fun b hb=>(g3.keep b hb fun⟨_,h,_⟩=>by cases h).1,g3.size,g3.os,g3.tape,g3.output⟩
omit [ô] in
def NV {f:Nat} {p:Ô} (E:Env (Val (tyL p.rs))) (hlib:∀[ô],NL E) (hmix:E.P.follows .mixedOrders=true) {tab:List (Ú (Val (tyL p.rs)))} (hE:E.loops=sn tab) (hok:∀x∈tab,x.Ok E) (law:X4 p E f):kw E.P f p :=
 aiI E hlib hmix (fun _ n hn hEnv hD path f fn c hp hf hc=>Hx hE hok hn hEnv hD hp hf hc) law
omit [ô] in
def aco {f:Nat} {p:Ô} (E E0:Env (Val (tyL p.rs))) (hlib:∀[ô],NL E) (hlib0:∀[ô],NL E0) (hP:E0.P=E.P) (hmix:E.P.follows .mixedOrders=true) {tab:List (Ú (Val (tyL p.rs)))} (h0:E0.loops=sn tab) (hok:∀x∈tab,x.Ok E0) {us:List apb} (hE:E.loops=aeZ E0 us)
 (hone:∀u∈us,(((sH E.P u.fid).elim [] (î 0)).filter fun y=>Nat.beq y.1 u.bid).length=1) (law:X4 p E f):kw E.P f p :=
 aiI E hlib hmix (fun hD0 n hn _ _ path f fn c hp hf hc=>amV hD0 hlib0 hP (hP▸hmix) (fun n hn hEnv hD path f fn c hp hf hc=>Hx h0 hok hn hEnv hD hp hf hc) hE hone hn hp hf hc) law
omit [ô] in
def pB {p:Ô} {E:Env (Val (tyL p.rs))} {f:Nat} (h:∀x:Val (tyL p.ts),topK E f (aft p.ts x) (fun h v=>Å (arg p.rs h v) some)=p.F x):X4 p E f:=fun x=>by
 rw[←h x];congr 1;funext h v;unfold Å
 cases arg p.rs h v<;>rfl
omit [ô] in
def Ä {α:Type} {Q:α→Prop}:∀x∈([]:List α),Q x:=fun _ h=>by cases h
omit [ô] in
def Á {α:Type} {Q:α→Prop} {a:α} {l:List α} (h:Q a) (hl:∀x∈l,Q x):∀x∈a::l,Q x:=fun x hx=>by
 rcases di.1 hx with rfl|hx
 ·exact h
 ·exact hl x hx
end Go.Am
end

noncomputable section
namespace Go.Am
open Go.ChangeShapes Go.WideShapes Go.ChangeAt Go.RowKit
abbrev asm:Nat→Prop:=fun _=>False
def Rng:(t:Ty)→Val t→Prop
 |.int .i64,n=>-9223372036854775808≤(n:Int)∧(n:Int)≤9223372036854775807
 |.pair a b,x=>Rng a (x:Val a×Val b).1∧Rng b (x:Val a×Val b).2
 |.slice t,l=>∀x∈(l:List (Val t)),Rng t x
 |_,_=>True
mutual
def ao7 (P:Program):Nat→Ty→TypeId→Bool
 |0,_,_=>false
 |n+1,τ,t =>
  match P.underlying t with
  |some .bool=>match τ with
   |.bool=>true
   |_=>false
  |some (.int k)=>match τ with
   |.int k'=>k==k'
   |_=>false
  |some .string=>match τ with
   |.str=>true
   |_=>false
  |some (.slice e)=>match τ with
   |.slice u=>ao7 P n u e&&(Nat.beq (P.cellsOf e) u.size&&Nat.ble 1 u.size)
   |_=>false
  |some (.struct fs)=>Nat.beq (P.cellsOf t) τ.size&&(τ.isAgg&&fieldsAre P n τ 0 fs.toList)
  |_=>false
def fieldsAre (P:Program):Nat→Ty→Nat→List Field→Bool
 |0,_,_,_=>false
 |n+1,τ,off,[f]=>Nat.beq f.offset off&&(Nat.beq (P.cellsOf f.type) τ.size&&ao7 P n τ f.type)
 |n+1,.pair a b,off,f::g::fs=>Nat.beq f.offset off&&(Nat.beq (P.cellsOf f.type) a.size&&(ao7 P n a f.type&&fieldsAre P n b (off+a.size) (g::fs)))
 |_,_,_,_=>false
end
def Ys {α β:Type} {f:α→Option β}:∀{l:List α} {ys:List β},l.mapM f=some ys→∀a∈l,∃y,f a=some y
 |[],ys,_,a,ha=>by cases ha
 |b::l,ys,h,a,ha=>by
  rw[List.mapM_cons] at h
  cases hb:f b with
  |none=>rw[hb] at h; cases h
  |some y =>
   rw[hb] at h
   cases hl:l.mapM f with
   |none=>simp[hl] at h
   |some zs =>
    rcases di.1 ha with rfl|ha
    ·exact⟨y,hb⟩
    ·exact Ys hl a ha
def SW {α:Type} {Q:Nat→α→Prop}:∀n:Nat,(∀i,i<n→∃x,Q i x)→∃xs:List α,xs.length=n∧∀i x,xs[i]?=some x→Q i x
 |0,_=>⟨[],rfl,fun i x h=>by simp at h⟩
 |n+1,h=>by
  obtain⟨xs,h1,h2⟩:=SW n fun i hi=>h i (by omega);obtain⟨x,hx⟩:=h n (by omega);refine⟨xs++[x],by simp[h1],fun i y hy=>?_⟩;rcases dA i n with hi|hi
  ·rw[eS (by omega)] at hy; exact h2 i y hy
  ·rw[eE (by omega),h1] at hy
   have:i=n:=by
    rcases dA 0 (i-n) with h0|h0
    ·rw[fW (by simp; omega)] at hy; cases hy
    ·omega
   subst this;simp at hy;rw[←hy]; exact hx
section
variable {H:Type} {enc:TypeId×Value→H} {P:Program} {w:World} {sp:Nat→Bool} {held:Bool}
def aqF {base:Nat} {a:Addr} {n:Nat} {cs:List Value} (h:w.cells? base a n=some cs) (hs:a.spot=none):ļ w a.block a.off cs:=by
 obtain⟨_,hl,hc⟩:=World.cells?_some h;intro j v hj;have hjl:j<cs.length:=(df.1 hj).1;have:=hc j (by omega);rw[hj] at this;rw[←this];congr 1;obtain⟨b,o,s⟩:=a;simp only at hs;subst hs;exact(add_plain b o j).symm
def ajT (enc:TypeId×Value→H) (P:Program) (w:World) (sp:Nat→Bool) (held:Bool) (n:Nat):Prop :=
 ∀(τ:Ty) (t:TypeId) (fuel:Nat) (cs:List Value) (d:DataW H) (ps:List MemPlace),ao7 P n τ t=true→DataW.trod enc P w 0 sp held fuel t cs=some (d,ps)→∃x:Val τ,CR w asm τ x cs∧Rng τ x
def Oo (enc:TypeId×Value→H) (P:Program) (w:World) (sp:Nat→Bool) (held:Bool) (n:Nat):Prop :=
 ∀(τ:Ty) (off:Nat) (fs:List Field) (fuel:Nat) (cs:List Value),fieldsAre P n τ off fs=true→(∀f∈fs,∃y,DataW.trod enc P w 0 sp held fuel f.type ((cs.drop f.offset).take (P.cellsOf f.type))=some y)→cs.length=off+τ.size→∃x:Val τ,CR w asm τ x (cs.drop off)∧Rng τ x
set_option maxHeartbeats 1000000 in
def alR {n:Nat} (A:ajT enc P w sp held n) (B:Oo enc P w sp held n):ajT enc P w sp held (n+1):=by
 intro τ t fuel cs d ps h e
 cases fuel with
 |zero=>simp[DataW.trod] at e
 |succ fuel =>
  unfold ao7 at h;unfold DataW.trod at e
  split at h
  ·-- bool
   rename_i hu;rw[hu] at e
   cases τ<;>try (cases h; done)
   rcases cs with _|⟨c,_|⟨c2,cs⟩⟩<;>try first|(cases e; done)|(simp at e; done)
   cases c<;>try (cases e; done)
   rename_i b;exact⟨(show Val .bool from b),rfl,trivial⟩
  ·-- int
   rename_i k hu;rw[hu] at e
   cases τ<;>try (cases h; done)
   rename_i k'
   have hk:k=k':=by simpa using h
   subst hk
   rcases cs with _|⟨c,_|⟨c2,cs⟩⟩<;>try first|(cases e; done)|(simp at e; done)
   cases c<;>try (cases e; done)
   rename_i k2 m;simp only at e
   split at e<;>try (cases e; done)
   rename_i hc;obtain⟨rfl,hwf⟩:=hc;refine⟨(show Val (.int k2) from m),rfl,?_⟩
   cases k2<;>try trivial
   simp only[Lit.wf,cZ,decide_eq_true_eq] at hwf;exact hwf
  ·-- string
   rename_i hu;rw[hu] at e
   cases τ<;>try (cases h; done)
   rcases cs with _|⟨c,_|⟨c2,cs⟩⟩<;>try first|(cases e; done)|(simp at e; done)
   cases c<;>try (cases e; done)
   rename_i s;exact⟨(show Val .str from s),rfl,trivial⟩
  ·-- slice
   rename_i el hu;rw[hu] at e
   cases τ<;>try (cases h; done)
   rename_i u;simp only[cZ] at h;obtain⟨h1,h2,h3⟩:=h;have hsz:P.cellsOf el=u.size:=dn h2;have hpos:1≤u.size:=fV h3
   rcases cs with _|⟨c,_|⟨c2,cs⟩⟩<;>try first|(cases e; done)|(simp at e; done)
   cases c<;>try (cases e; done)
   rename_i base len cap
   cases base with
   |none =>
    cases len<;>cases cap<;>try (cases e; done)
    exact⟨(show Val (.slice u) from[]),⟨none,0,rfl,cY _,.inl rfl⟩,fun x hx=>by cases hx⟩
   |some a =>
    simp only at e
    split at e<;>try (cases e; done)
    rename_i hb
    cases hm:(List.range len).mapM (fun i=>(w.cells? 0 (a.add (i*P.cellsOf el)) (P.cellsOf el)).bind (DataW.trod enc P w 0 sp held fuel el)) with
    |none=>rw[hm] at e; cases e
    |some asq =>
     clear e
     have each:∀i,i<len→∃x:Val u,∃us,w.cells? 0 (a.add (i*P.cellsOf el)) (P.cellsOf el)=some us∧CR w asm u x us∧Rng u x:=by
      intro i hi;obtain⟨y,hy⟩:=Ys hm i (List.mem_range.2 hi)
      cases hc:w.cells? 0 (a.add (i*P.cellsOf el)) (P.cellsOf el) with
      |none=>rw[hc] at hy; cases hy
      |some us =>
       rw[hc] at hy;obtain⟨d',ps'⟩:=y;obtain⟨x,g1,g2⟩:=A u el fuel us d' ps' h1 hy;exact⟨x,us,rfl,g1,g2⟩
     obtain⟨xs,hl,hx⟩:=SW len each;refine⟨(show Val (.slice u) from xs),⟨some a,cap,by rw[hl],by rw[hl]; exact hb.2.1,?_⟩,fun x hxm=>?_⟩
     ·rcases fE len with h0|h0
      ·left; exact dw.1 (by rw[hl,h0])
      ·right;obtain⟨x0,us0,c0,_,_⟩:=each 0 h0;have hblk:=World.cells?_block c0 (by omega);obtain⟨_,l0,g0⟩:=World.cells?_some c0
       have hspot:a.spot=none:=by
        have h5:=g0 0 (by omega);obtain⟨v0,hv0⟩:∃v0,us0[0]?=some v0:=⟨us0[0],cX (by omega)⟩;rw[hv0] at h5;simpa[Addr.add] using World.cell?_spot h5
       obtain⟨b,o,s⟩:=a;simp only at hspot;subst hspot;refine⟨b,o,rfl,id,by simpa[Addr.add] using hblk,fun i x hxi=>?_⟩;obtain⟨us,q1,q2,_⟩:=hx i x hxi;refine⟨us,q2,?_⟩;rw[add_plain] at q1;have:=aqF q1 rfl;rw[hsz] at this;exact this
     ·obtain⟨i,hi,rfl⟩:=dl.1 hxm;obtain⟨us,_,_,g⟩:=hx i _ (cX hi);exact g
  ·-- struct
   rename_i fs hu;rw[hu] at e;simp only[cZ] at h;obtain⟨h1,_,h2⟩:=h;have hsz:P.cellsOf t=τ.size:=dn h1;simp only at e
   split at e<;>try (cases e; done)
   rename_i hlen
   cases hm:fs.toList.mapM (fun f=>DataW.trod enc P w 0 sp held fuel f.type ((cs.drop f.offset).take (P.cellsOf f.type))) with
   |none=>rw[hm] at e; cases e
   |some xs =>
    have:=B τ 0 fs.toList fuel cs h2 (Ys hm) (by omega);simpa using this
  ·cases h
def ahG {n:Nat} (A:ajT enc P w sp held n) (B:Oo enc P w sp held n):Oo enc P w sp held (n+1):=by
 intro τ off fs fuel cs h hf hlen;rcases fs with _|⟨f,_|⟨g,fs⟩⟩
 ·simp[fieldsAre] at h
 ·unfold fieldsAre at h;simp only[Bool.and_eq_true] at h;obtain⟨h1,h2,h3⟩:=h;obtain⟨⟨d,ps⟩,hy⟩:=hf f (by simp);rw[Nat.eq_of_beq_eq_true h1,Nat.eq_of_beq_eq_true h2,List.take_of_length_le (by rw[List.length_drop]; omega)] at hy;exact A τ f.type fuel _ d ps h3 hy
 ·cases τ<;>try (simp[fieldsAre] at h; done)
  rename_i a b;unfold fieldsAre at h;simp only[Bool.and_eq_true] at h;obtain⟨h1,h2,h3,h4⟩:=h;obtain⟨⟨d,ps⟩,hy⟩:=hf f (by simp);rw[Nat.eq_of_beq_eq_true h1,Nat.eq_of_beq_eq_true h2] at hy;obtain⟨x,q1,q2⟩:=A a f.type fuel _ d ps h3 hy;simp only[Ty.size] at hlen;obtain⟨y,q3,q4⟩:=B b (off+a.size) (g::fs) fuel cs h4 (fun f' hf'=>hf f' (by simp[hf'])) (by omega);refine⟨(show Val (.pair a b) from(x,y)),⟨_,_,?_,q1,q3⟩,q2,q4⟩;rw[←List.drop_drop,List.take_append_drop]
def xX:∀n,ajT enc P w sp held n∧Oo enc P w sp held n
 |0=>⟨fun τ t fuel cs d ps h _=>by simp[ao7] at h,fun τ off fs fuel cs h _ _=>by simp[fieldsAre] at h⟩
 |n+1=>⟨alR (xX n).1 (xX n).2,ahG (xX n).1 (xX n).2⟩
def ais {n:Nat} {τ:Ty} {t:TypeId} {v:Value} {d:DataW H} {ps:List MemPlace} {r:Reach} {base:Nat} (ht:ao7 P n τ t=true) (h:DataW.Trod enc P w 0 sp held t v d ps) (hv:Value.okWide P w r base t v):∃x:Val τ,lv w asm τ x v∧Rng τ x:=by
 obtain⟨fuel,hf⟩:=h;obtain⟨x,h1,h2⟩:=(xX n).1 τ t fuel _ d ps ht hf;refine⟨x,⟨_,h1,?_⟩,h2⟩
 cases n with
 |zero=>simp[ao7] at ht
 |succ n =>
  unfold ao7 at ht;unfold Value.okWide at hv
  split at ht
  ·rename_i hu;rw[hu] at hv
   cases τ<;>try (cases ht; done)
   simp only[Cell.okWide,hu] at hv
   cases v<;>simp_all[Cell.ok,Value.cells,xU,Ty.isAgg]
  ·rename_i k hu;rw[hu] at hv
   cases τ<;>try (cases ht; done)
   simp only[Cell.okWide,hu] at hv
   cases v<;>simp_all[Cell.ok,Value.cells,xU,Ty.isAgg]
  ·rename_i hu;rw[hu] at hv
   cases τ<;>try (cases ht; done)
   simp only[Cell.okWide,hu] at hv
   cases v<;>simp_all[Cell.ok,Value.cells,xU,Ty.isAgg]
  ·rename_i el hu;rw[hu] at hv
   cases τ<;>try (cases ht; done)
   simp only[Cell.okWide,hu] at hv
   cases v<;>simp_all[Cell.ok,Value.cells,xU,Ty.isAgg]
  ·rename_i fs hu;rw[hu] at hv;obtain⟨cs,rfl,_,_⟩:=hv;simp only[cZ] at ht;have hagg:τ.isAgg=true:=ht.2.1;simp[xU,hagg,Value.cells]
  ·cases ht
def B0 (P:Program):List Ty→List TypeId→Bool
 |[],[]=>true
 |τ::l,t::ts=>ao7 P 40 τ t&&B0 P l ts
 |_,_=>false
def ait {r:Reach} {base:Nat}:∀(l:List Ty) (τ:Ty) (t:TypeId) (ts:List TypeId) (v:Value) (vs:List Value) (ds:List (DataW H)) (ps:List MemPlace),B0 P (τ::l) (t::ts)=true→DataW.TrodAll enc P w 0 sp held (t::ts) (v::vs) ds ps →
 (∀(j:Nat) t' v',(t::ts)[j]?=some t'→(v::vs)[j]?=some v'→Value.okWide P w r base t' v')→∃x:Val (tys τ l),AT w asm l τ x (v::vs)∧Rng (tys τ l) x
 |l,τ,t,ts,v,vs,[],ps,_,h,_=>by cases h
 |[],τ,t,ts,v,vs,d::ds,ps,hs,h,hv=>by
  obtain⟨p,q,h1,h2,_⟩:=h;simp only[B0,cZ] at hs
  have:ts=[]:=by cases ts with|nil=>rfl|cons=>simp[B0] at hs
  subst this
  have hvs:vs=[]:=by cases vs with|nil=>rfl|cons=>exact h2.elim
  subst hvs;obtain⟨x,g1,g2⟩:=ais hs.1 h1 (hv 0 t v rfl rfl);exact⟨x,⟨v,rfl,g1⟩,g2⟩
 |u::l,τ,t,ts,v,vs,d::ds,ps,hs,h,hv=>by
  obtain⟨p,q,h1,h2,_⟩:=h;simp only[B0,cZ] at hs;obtain⟨x,g1,g2⟩:=ais hs.1 h1 (hv 0 t v rfl rfl);rcases ts with _|⟨t2,ts⟩
  ·simp[B0] at hs
  ·rcases vs with _|⟨v2,vs⟩
   ·exact h2.elim
   ·obtain⟨y,g3,g4⟩:=ait l u t2 ts v2 vs ds q hs.2 h2 fun j t' v' a b=>hv (j+1) t' v' (by simpa using a) (by simpa using b);exact⟨(show Val (.pair τ (tys u l)) from(x,y)),⟨v,v2::vs,rfl,g1,g3⟩,g2,g4⟩
def apk {r:Reach} {base:Nat} {l:List Ty} {ts:List TypeId} {vs:List Value} {ds:List (DataW H)} {ps:List MemPlace} (hs:B0 P l ts=true) (h:DataW.TrodAll enc P w 0 sp held ts vs ds ps)
 (hv:∀(j:Nat) t' v',ts[j]?=some t'→vs[j]?=some v'→Value.okWide P w r base t' v'):∃x:Val (tyL l),AL w asm l x vs∧Rng (tyL l) x:=by
 rcases l with _|⟨τ,l⟩
 ·have:ts=[]:=by cases ts with|nil=>rfl|cons=>simp[B0] at hs
  subst this
  have hvs:vs=[]:=by cases vs with|nil=>rfl|cons=>cases ds<;>exact h.elim
  exact⟨(show Val .unit from()),hvs,trivial⟩
 ·rcases ts with _|⟨t,ts⟩
  ·simp[B0] at hs
  ·rcases vs with _|⟨v,vs⟩
   ·cases ds<;>exact h.elim
   ·exact ait l τ t ts v vs ds ps hs h hv
def EN (hl:laidOutB P=true) {W W':World} (hb:Below W.heap.size W W'):∀{ts:List TypeId} {vs:List Value} {ds:List (DataW H)} {ps:List MemPlace},(ts.all fun t=>P.readableRec t&&decide (t<P.types.size))=true→DataW.TrodAll enc P W 0 (fun _=>true) true ts vs ds ps→(∀x∈ps,x.block<W.heap.size) →
 DataW.TrodAll enc P W' 0 (fun b=>decide (b<W.heap.size)) true ts vs ds ps
 |[],[],[],ps,_,h,_=>h
 |t::ts,v::vs,d::ds,ps,hr,h,hlt=>by
  obtain⟨p,q,h1,h2,rfl⟩:=h;simp only[fZ,cZ,decide_eq_true_eq] at hr;exact⟨p,q,Below.trod hl hr.1.1 hr.1.2 h1 hb (fun x hx=>hlt x (eF _ hx)),EN hl hb (by simpa using hr.2) h2 (fun x hx=>hlt x (eh _ hx)),rfl⟩
 |[],[],_::_,_,_,h,_=>h.elim
 |[],_::_,_,_,_,h,_=>by cases ‹List (DataW H)›<;>exact h.elim
 |_::_,[],_,_,_,h,_=>by cases ‹List (DataW H)›<;>exact h.elim
 |_::_,_::_,[],_,_,h,_=>h.elim
def Ox {W:World}:∀{ts:List TypeId} {vs:List Value} {ds:List (DataW H)} {ps:List MemPlace},DataW.TrodAll enc P W 0 sp held ts vs ds ps→ds.length=ts.length
 |[],[],[],_,_=>rfl
 |_::_,_::_,_::_,_,h=>by obtain⟨p,q,_,h2,_⟩:=h; simp[Ox h2]
 |[],[],_::_,_,h=>h.elim
 |[],_::_,ds,_,h=>by cases ds<;>exact h.elim
 |_::_,[],ds,_,h=>by cases ds<;>exact h.elim
 |_::_,_::_,[],_,h=>h.elim
def law_lifted {C:Checked} {os:Os} {f:FuncId} {fn:Func} {s:ChangeSpec} {conds:List PathCond} {p:Ô} {tb:TypeId} (own:ownKnob C.prog.godebug=none) (started:os.Started) (noInit:C.prog.inits.idxOf? f=none) (hfn:C.prog.funcs[f]?=some fn)
 (witness:∃(w:World) (tape:Tape) (i:Input),w.os=os∧(w.forCall tape i).Shaped C.prog∧i.vars=[]∧Input.okWide C.prog (w.forCall tape i) .any w.heap.size f i ∧
  s.pre6 enc C.prog fn conds false (w.forCall tape i).memory i.args∧({}:Assume).holds C.prog (lone (Frame.enter C.prog f i.args .normal) [] (w.forCall tape i)))
 (hp:kw C.prog f p) (hrs:p.rs=[.bool]) (law:∀x:Val (tyL p.ts),Rng (tyL p.ts) x→p.F x=some (hrs▸(show Val (tyL [.bool]) from true))) (htys:B0 C.prog p.ts fn.params.toList=true) (hsv:s.vars=[])
 (hs:∀ds:List (DataW H),ds.length=fn.params.toList.length→s.fn H ds={results:=[.lit (.bool true)],args:=ds}) (hl:laidOutB C.prog=true) (hrd:(fn.params.toList.all fun t=>C.prog.readableRec t&&decide (t<C.prog.types.size))=true)
 (hres:fn.resultTypes=#[tb]) (hbool:C.prog.underlying tb=some .bool) :
 ReturnsInHanded {} C os f .any (s.pre6 enc C.prog fn conds false) (s.post enc C.prog fn false true false false):=by
 refine returnsInHanded_of_change own started noInit hfn witness ?_;intro W base args ds gs before hval hW _ _;have hW':=hW;obtain⟨pa,q,hA,hV,rfl,_,_⟩:=hW
 have hgs:gs=[]∧q=[]:=by
  rw[hsv] at hV
  cases gs with
  |nil=>exact⟨rfl,hV⟩
  |cons=>exact hV.elim
 obtain⟨rfl,rfl⟩:=hgs;obtain⟨x,h1,h2⟩:=apk htys hA (r:=.any) (base:=base) fun j t v ht hv=>hval j t v (by simpa using ht) (by simpa using hv);simp only[dU] at hW'
 have hlt:∀x∈pa,x.block<W.heap.size:=fun x hx=>by simpa using hW'.lt x hx
 refine(callsIn_wide (n:=0)).1 ((hp asm x _ (law x h2) W args.toList (fun _ h=>h.elim) h1).2.mono fun e W' hw=>?_);obtain⟨u,rfl,k1,k2,k3,k4,k5,k6⟩:=hw
 have hu:u=.bool true:=by
  obtain⟨ts,rs,F⟩:=p;dsimp only at hrs k1;subst hrs;obtain⟨us,c1,rfl⟩:=k1;have:us=[.bool true]:=c1;rw[this]; rfl
 subst hu;have hb:Below W.heap.size W W':=⟨k4,k5,k6,k3,k2⟩
 have hds:s.fn H (ds++[])={results:=[.lit (.bool true)],args:=ds}:=by rw[dU]; exact hs ds (Ox hA)
 refine⟨_,rfl,ds,[],pa,[],pa,[],hW',?_,?_,?_,hb.frame _,fun h=>by cases h⟩
 ·rw[hds,hres];exact trodAll_mk1 (shut_bool hbool _)
 ·rw[hds];exact EN hl hb hrd hA hlt
 ·rw[hds,hsv]; rfl
end
def joined_of {P:Program} {f:FuncId} {fn:Func} {s:ChangeSpec} {c:OpenClaim} (h1:c.wf (OpenSpec.ofChange s)=true) (h2:laidOutB P=true) (h3:mapsRowed P=true) (h4:fn.params.all (P.readableRec ·)=true) (h5:namedTie P c.named s.vars=true)
 (h6:(c.stops==[])=true) (h7:(P.stops==[])=true) (h8:(c.knobs==[])=true) (h9:(P.stopKnobs==[])=true) (h10:(c.inPlace==P.inPlace f)=true) (h11:(c.unfollowed==P.unfollowed f)=true) (h12:(c.recurses==P.recurses f)=true) (h13:(c.named==P.varsNamed f)=true)
 (h14:(c.maps==(fn.params.toList++s.plain.varTypes P).any (P.mapsRec ·))=true) (h15:(c.ifaces==(fn.params.toList++s.plain.varTypes P).any (P.ifacesRec ·))=true) (h16:(c.mapsOut==P.mapsAmong fn.resultTypes.toList)=true)
 (h17:(c.loops==(fn.params.toList++s.plain.varTypes P).any (P.loopsFrom ·))=true) (h18:(c.wideKeys==(fn.params.toList++s.plain.varTypes P++fn.resultTypes.toList).any (P.wideKeysFrom ·))=true)
 (h19:s.vars.all (P.varReadable ·)=true) (h20:fn.resultTypes.all (fun t=>P.readableRec t&&decide (t<P.types.size))=true) (h21:(c.ifacesOut==fn.resultTypes.toList.any (P.ifacesRec ·))=true) (h22:(c.loopsOut==fn.resultTypes.toList.any (P.loopsFrom ·))=true)
 (h23:(c.plainKeys==P.plainKeys)=true) (h24:c.shortTexts.isNone=true) (h25:P.stopsHeard=true) (h26:P.mayEnter=true) (h27:(c.lifted==P.liftsFinal)=true) (h28:(P.make==some c.make)=true)
 (h29:(c.kinds==(if c.domain.isEmpty then[] else fn.params.toList.map fun t=>match P.underlying t with|some (.int k)=>some k|_=>none))=true) (h30:(c.pinned==c.pinnedBy)=true)
 (h31:(c.veiled==(fn.params.toList++s.plain.varTypes P++fn.resultTypes.toList).any (P.veiledRec ·))=true) (h32:c.veiledFits P fn.params.toList (fn.params.toList++s.plain.varTypes P++fn.resultTypes.toList)=true):joinedFacts P f fn s c=true:=by
 unfold joinedFacts;simp only[h1,h2,h3,h4,h5,h6,h7,h8,h9,h10,h11,h12,h13,h14,h15,h16,h17,h18,h19,h20,h21,h22,h23,h24,h25,h26,h27,h28,h30,h31,h32,Bool.and_true];exact h29
end Go.Am
end
