/- lemmas -/
import Derived.Test.YtanjeafjkgllhaaGreatDoorAmB
import Derived.RangeFuncNested
import Derived.Below
import Derived.ProofKit
import Derived.OpenShut
import Derived.WalkKit
import Derived.SizedLaws
import Derived.Carry
import Derived.Deep.DeepHandedRow
import Derived.Deep.DeepWitnessRowRef
import Derived.Lib.LaidTab
import Derived.Lay
import Derived.MakeChecks
import Derived.LaidSub
import Derived.FnData
import Derived.Test.YtanjeafjkgllhaaGreatDoorAmA
import Derived.Lib.AtoiAll
import Derived.Lib.Bytealg
import Derived.Lib.ItoaNum
import Derived.Lib.Join
import Derived.Lib.Split
import Derived.Lib.Strings
set_option linter.all false
noncomputable section
namespace Go.Am
variable [Globs] [Ghost]
section
variable {ρ:Type} {P:Program} {h h2:rT Blk} {t t2:rT AV}
def aam {ty:Ty} {a:AV} (d:nX h h2 a):al7 h2 ty a=al7 h ty a:=by
 have b:acv h2 a=acv h a:=En d.one
 cases ty with
 |ptr u =>
  cases a with
  |box id off =>
   cases off with
   |zero =>
    have h1:lkB h2 id=lkB h id:=d.one id (by simp[refs1,Ĕ]);simp only[al7,h1]
    cases e:lkB h id with
    |cells cs =>
     simp only
     have:cs.map (ñ h2)=cs.map (ñ h):=fe fun c j=>pm fun i hi=>d i (by
      simp only[refs2,dA,dY]
      exact .inr ⟨id,by simp[refs1,Ĕ],by rw[e]; exact⟨c,j,hi⟩⟩)
     rw[this]
    |_=>rfl
   |succ n=>rfl
  |eptr t' x off=>cases off<;>rfl
  |_=>rfl
 |_=>cases a with
  |_=>simp only[al7,b]
def UT:∀{l:rT Ty} {ty:Ty} {as:rT AV},(∀a∈as,nX h h2 a)->WU h2 l ty as=WU h l ty as
 |[],ty,[],_=>rfl
 |[],ty,[a],c=>by simp only[WU]; exact aam (c a (by simp))
 |[],ty,_::_::_,_=>rfl
 |u::l,ty,[],_=>rfl
 |u::l,ty,a::as,c=>by
  simp only[WU];rw[aam (c a (by simp)),UT fun b hb=>c b (by simp[hb])]
def UU {l:rT Ty} {as:rT AV} (b:∀a∈as,nX h h2 a):Ec h2 l as=Ec h l as:=by
 cases l with
 |nil=>rfl
 |cons ty l=>exact UT b
def abL {E:Env ρ} {o:Op} (c:∀x∈o.operands.toList,ev t2 x=ev t x):UD E t2 o=UD E t o:=by
 unfold UD
 split
 ·rename_i s b tys;rw[c (.tmp s) (by simp[Op.operands,Call.operands])]
 ·rfl
def Qh {E:Env ρ} {o:Op} (d:∀x∈o.operands.toList,ev t2 x=ev t x) (e:1<=cls E o->∀x∈o.operands.toList,nX h h2 (ev t x)) :
 l8 E {t:=t2,h:=h2} o=l8 E {t:=t,h:=h} o:=by
 unfold l8
 split
 ·rename_i i;have b:1<=cls E o:=eE i
  have h1:(o.operands.toList.all fun x=>(refs2 h2 (ev t2 x)).all fun id=>!ait (lkB h2 id))=o.operands.toList.all fun x=>(refs2 h (ev t x)).all fun id=>!ait (lkB h id):=by
   rw[eS];simp only[dM];refine forall_congr' fun x=>forall_congr' fun c=>?_;rw[d x c,(e b x c).refs]
   exact forall_congr' fun id=>forall_congr' fun hi=>by rw[e b x c id hi]
  exact congr (congrArg and h1) (abL d)
 ·rfl
def oY {E:Env ρ} {o:Op} (b:1<=cls E o) {id:Nat}:id∈Bk E {t:=t,h:=h} o↔∃x∈o.operands.toList,id∈refs2 h (ev t x):=by
 unfold Bk;have:Nat.ble 1 (cls E o)=true:=Nat.ble_eq_true_of_le b;simp only[this,List.mem_flatMap]
def GW {E:Env ρ} {o:Op} (b:cls E o=0) {S:St}:Bk E S o=[]:=by
 unfold Bk; rw[b]
def Loc (E:Env ρ) (o:Op) (nid:Nat) (t:rT AV) (h:rT Blk) (t2:rT AV) (h2:rT Blk) (z b:(AV->St->rF ρ)->rF ρ):Prop :=
 ∃φ:rF (AV×rT (Nat×Blk)),(∀r,φ=some r->∀p∈r.2,(p.1=nid/\Ā E.clone o=true)\/(cls E o=2/\p.1∈Bk E {t:=t,h:=h} o)) /\
  (∀K,z K=φ.bind fun r=>K r.1 {t:=t,h:=aps r.2 h})/\∀K,b K=φ.bind fun r=>K r.1 {t:=t2,h:=aps r.2 h2}
def Loc.no {E:Env ρ} {o:Op} {nid:Nat} {z c:(AV->St->rF ρ)->rF ρ} (h1:∀K,z K=none) (b:∀K,c K=none):Loc E o nid t h t2 h2 z c :=
 ⟨none,by simp,fun K=>by rw[h1]; rfl,fun K=>by rw[b]; rfl⟩
def ai0 {σ σ2:Type} {R:rF σ->rF σ2->Prop} {g nid:Nat} {fz:Bool} {x:AV} {K:AV->St->rF σ} {K2:AV->St->rF σ2} (h0:R none none) (d:∀id∈refs1 x,lkB h2 id=lkB h id)
 (b:∀v c,R (K v {t:=t,h:=ap nid c h}) (K2 v {t:=t2,h:=ap nid c h2})):R (wR P g fz {t:=t,h:=h} nid x K) (wR P g fz {t:=t2,h:=h2} nid x K2):=by
 simp only[wR,Jf d]
 (repeat' split)<;>first|exact h0|exact b _ none|exact b _ (some _)
def efU (nid:Nat):rF Blk->rT (Nat×Blk)
 |none=>[]
 |some B=>[(nid,B)]
def aed {nid:Nat} {b:rF Blk}:ap nid b h=aps (efU nid b) h:=by cases b<;>rfl
def amU {E:Env ρ} {call:rT Nat->Bool->Nat->rT AV->rT Blk->(AV->rT Blk->rF ρ)->rF ρ} {fid:Nat} {path:rT Nat} {nid:Nat} {o:Oper}
 (k:akb E call) (L:cls E o.op<=2) (hlen:h2.length=h.length) (hx:∀x∈o.op.operands.toList,ev t2 x=ev t x) (hs:1<=cls E o.op->∀x∈o.op.operands.toList,nX h h2 (ev t x)) :
 Loc E o.op nid t h t2 h2 (jQ E call fid path true {t:=t,h:=h} nid o) (jQ E call fid path true {t:=t2,h:=h2} nid o):=by
 have z:=Qh hx hs
 cases N:l8 E {t:=t,h:=h} o.op with
 |false=>exact .no (fun K=>by simp[iO,N]) (fun K=>by simp[iO,z,N])
 |true =>
  rw[N] at z
  have plain:(∀f d tys,o.op≠.call ⟨.value f,d,tys⟩)->Loc E o.op nid t h t2 h2 (jQ E call fid path true {t:=t,h:=h} nid o) (jQ E call fid path true {t:=t2,h:=h2} nid o):=by
   intro hno
   have C:∀S:St,l8 E S o.op=true->∀K,jQ E call fid path true S nid o K=opK E.P S nid (Qg E true fid o) o.op K:=fun S Z K=>by
    simp only[iO]
    try simp only[Jq]
    simp only[Z,eo,fY,Bool.false_and]
   have Y:Ul o.op=false:=by
    cases J:o.op<;>try rfl
    rename_i c;obtain⟨f,d,tys⟩:=c
    cases f<;>first|rfl|exact absurd J (hno _ _ _)
   have fin:(∃φ:rF (AV×rT (Nat×Blk)),(∀r,φ=some r->∀p∈r.2,(p.1=nid/\Ā E.clone o.op=true)\/(cls E o.op=2/\p.1∈Bk E {t:=t,h:=h} o.op)) /\
    opK E.P {t:=t,h:=h} nid (Qg E true fid o) o.op (fun v S=>some (v,S))=φ.map (fun r=>(r.1,({t:=t,h:=aps r.2 h}:St)))/\opK E.P {t:=t2,h:=h2} nid (Qg E true fid o) o.op (fun v S=>some (v,S))=φ.map fun r=>(r.1,({t:=t2,h:=aps r.2 h2}:St))) ->
    Loc E o.op nid t h t2 h2 (jQ E call fid path true {t:=t,h:=h} nid o) (jQ E call fid path true {t:=t2,h:=h2} nid o):=by
    rintro⟨φ,h1,h2',h3⟩;refine⟨φ,h1,fun K=>?_,fun K=>?_⟩
    ·rw[C _ N,Vq]; unfold opR; rw[h2']; cases φ<;>rfl
    ·rw[C _ z,Vq]; unfold opR; rw[h3]; cases φ<;>rfl
   apply fin
   by_cases h2c:cls E o.op=2
   ·refine am4 (P:=E.P) (E:=E) (o:=o.op) (nid:=nid) (σ:=AV×St) (σ2:=AV×St) (K:=fun v S=>some (v,S)) (K2:=fun v S=>some (v,S))
     (R:=fun x y=>∃φ:rF (AV×rT (Nat×Blk)),(∀r,φ=some r->∀p∈r.2,(p.1=nid/\Ā E.clone o.op=true)\/(cls E o.op=2/\p.1∈Bk E {t:=t,h:=h} o.op))/\x=φ.map (fun r=>(r.1,({t:=t,h:=aps r.2 h}:St)))/\y=φ.map fun r=>(r.1,({t:=t2,h:=aps r.2 h2}:St)))
     ⟨none,by simp,rfl,rfl⟩ h2c Y hlen (fun ty n ps J=>by rw[Qg,J]; rfl) hx (fun x G=>(hs (by omega) x G).one) fun v ups hu=>⟨some (v,ups),fun r I p m=>?_,rfl,rfl⟩
    cases I;rcases hu p m with hu|⟨x,G,hi⟩
    ·exact .inl hu
    ·exact .inr ⟨h2c,(oY (by omega)).2 ⟨x,G,by simp only[refs2,dA]; exact .inl hi⟩⟩
   ·have hea:Qg E true fid o=false:=by
     unfold Qg
     cases J:o.op<;>first|rfl|(exfalso; apply h2c; rw[J]; rfl)
    rw[hea]
    refine amr (P:=E.P) (E:=E) (o:=o.op) (nid:=nid) (σ:=AV×St) (σ2:=AV×St) (K:=fun v S=>some (v,S)) (K2:=fun v S=>some (v,S))
     (R:=fun x y=>∃φ:rF (AV×rT (Nat×Blk)),(∀r,φ=some r->∀p∈r.2,(p.1=nid/\Ā E.clone o.op=true)\/(cls E o.op=2/\p.1∈Bk E {t:=t,h:=h} o.op))/\x=φ.map (fun r=>(r.1,({t:=t,h:=aps r.2 h}:St)))/\y=φ.map fun r=>(r.1,({t:=t2,h:=aps r.2 h2}:St)))
     ⟨none,by simp,rfl,rfl⟩ (by omega) Y hx (fun h1 x G=>(hs (by omega) x G).one) fun v ef hef=>⟨some (v,efU nid ef),fun r I p m=>?_,by rw[aed]; rfl,by rw[aed]; rfl⟩
    cases I
    cases ef with
    |none=>cases m
    |some B =>
     simp only[efU,dB] at m;subst m;exact .inl ⟨rfl,hef rfl⟩
  cases J:o.op with
  |call c =>
   obtain⟨f,d,tys⟩:=c
   cases f with
   |value f =>
    cases f with
    |func g =>
     rw[J] at hx hs L;have hxa:∀x∈d.toList,ev t2 x=ev t x:=fun x G=>hx x (by simp[Op.operands,Call.operands]; exact .inr (by simpa using G))
     have j:∀x∈d.toList,x∈(Op.call ⟨.value (.func g),d,tys⟩).operands.toList:=fun x G=>by simp[Op.operands,Call.operands]; exact .inr (by simpa using G)
     have he:=M5 hxa
     cases hc:E.clone g with
     |true =>
      have hcls:cls E (.call ⟨.value (.func g),d,tys⟩)=1:=by simp[cls,hc]
      have C:∀(S:St),l8 E S o.op=true->∀K,jQ E call fid path true S nid o K=match d.toList with
       |[x]=>wR E.P g (E.eat fid (o.dst.getD 0)) S nid (ev S.t x) K
       |_=>none:=fun S Z K=>by
       simp only[iO]
       try simp only[Jq]
       simp only[Z,eo,fY];rw[J];simp only[ev,hc,abA,Bool.and_self];rfl
      generalize hl:d.toList=l at C he hxa j;rcases l with _|⟨x,_|⟨y,l⟩⟩
      ·exact .no (fun K=>C _ N K) (fun K=>C _ z K)
      ·have hsx:=(hs (by omega) x (j x (by simp))).one;have e1:=hxa x (by simp)
       obtain⟨φ,h1,h2',h3⟩:=ai0 (P:=E.P) (g:=g) (fz:=E.eat fid (o.dst.getD 0)) (nid:=nid) (t:=t) (t2:=t2) (σ:=AV×St) (σ2:=AV×St) (K:=fun v S=>some (v,S)) (K2:=fun v S=>some (v,S))
        (R:=fun x y=>∃φ:rF (AV×rT (Nat×Blk)),(∀r,φ=some r->∀p∈r.2,p.1=nid)/\x=φ.map (fun r=>(r.1,({t:=t,h:=aps r.2 h}:St)))/\y=φ.map fun r=>(r.1,{t:=t2,h:=aps r.2 h2}))
        ⟨none,by simp,rfl,rfl⟩ hsx fun v ef=>⟨some (v,efU nid ef),fun r I p m=>by
         cases I
         cases ef with
         |none=>cases m
         |some B=>simp only[efU,dB] at m; rw[m],by rw[aed]; rfl,by rw[aed]; rfl⟩
       refine⟨φ,fun r I p m=>.inl ⟨h1 r I p m,by simpa[Ā] using hc⟩,fun K=>?_,fun K=>?_⟩
       ·rw[C _ N];simp only;rw[IY,h2']
        cases φ<;>rfl
       ·rw[C _ z];simp only[e1];rw[IY,h3]
        cases φ<;>rfl
      ·exact .no (fun K=>C _ N K) (fun K=>C _ z K)
     |false =>
      have C:∀(S:St),l8 E S o.op=true->∀K,jQ E call fid path true S nid o K=call path true g (d.toList.map (ev S.t)) S.h fun v h=>K v {t:=S.t,h:=h}:=fun S Z K=>by
       simp only[iO]
       try simp only[Jq]
       simp only[Z,eo,fY];rw[J];simp only[ev,hc,abA,Bool.false_and,eA,dO]
      rcases k with k|⟨k,hse,hce⟩
      ·exact .no (fun K=>by rw[C _ N]; exact k _ _ _ _ _ _) (fun K=>by rw[C _ z]; exact k _ _ _ _ _ _)
      cases m:E.pure g with
      |none =>
       have h1c:1<=cls E (.call ⟨.value (.func g),d,tys⟩):=by simp only[cls,hc,m]; cases E.sort g<;>cases E.compact g<;>simp
       have row:∀(f:rT Blk->AV->(AV->rT Blk->rF ρ)->rF ρ),(∀S K,l8 E S o.op=true->jQ E call fid path true S nid o K=match d.toList.map (ev S.t) with|[x]=>f S.h x fun v h=>K v {t:=S.t,h:=h}|_=>none)->cls E (.call ⟨.value (.func g),d,tys⟩)=2 ->
        (∀x,(∀id∈refs1 x,lkB h2 id=lkB h id)->∃φ:rF (AV×rT (Nat×Blk)),(∀r,φ=some r->∀p∈r.2,p.1∈refs1 x)/\(∀K,f h x K=φ.bind fun r=>K r.1 (aps r.2 h))/\∀K,f h2 x K=φ.bind fun r=>K r.1 (aps r.2 h2)) ->
        Loc E (.call ⟨.value (.func g),d,tys⟩) nid t h t2 h2 (jQ E call fid path true {t:=t,h:=h} nid o) (jQ E call fid path true {t:=t2,h:=h2} nid o):=by
        intro f O h2c hloc;generalize hl:d.toList=l at O he j;rcases l with _|⟨x,_|⟨y,l⟩⟩
        ·exact .no (fun K=>O _ K N) (fun K=>O _ K z)
        ·obtain⟨φ,q1,q2,q3⟩:=hloc (ev t x) (hs h1c x (j x (by simp))).one;refine⟨φ,fun r I p m=>.inr ⟨h2c,(oY h1c).2 ⟨x,j x (by simp),by simp only[refs2,dA]; exact .inl (q1 r I p m)⟩⟩,fun K=>?_,fun K=>?_⟩
         ·rw[O _ K N];exact q2 _
         ·rw[O _ K z];simp only[he];exact q3 _
        ·exact .no (fun K=>O _ K N) (fun K=>O _ K z)
       cases V:E.sort g with
       |true =>
        refine row U8 (fun S K Z=>(C S Z K).trans (hse g m V path true _ S.h _)) (by simp[cls,hc,m,V]) fun x hx1=>?_;unfold U8
        cases x with
        |own id g =>
         have e3:=hx1 id (by simp[refs1,Ĕ]);simp only[e3]
         cases lkB h id with
         |row ty g' fz xs =>
          cases fz<;>simp only
          ·split
           ·split
            ·split
             ·exact⟨some (_,[(id,_)]),by simp[refs1,Ĕ],fun K=>rfl,fun K=>rfl⟩
             ·exact⟨none,by simp,fun K=>rfl,fun K=>rfl⟩
            ·exact⟨none,by simp,fun K=>rfl,fun K=>rfl⟩
           ·exact⟨none,by simp,fun K=>rfl,fun K=>rfl⟩
          ·exact⟨none,by simp,fun K=>rfl,fun K=>rfl⟩
         |_=>exact⟨none,by simp,fun K=>rfl,fun K=>rfl⟩
        |nils=>exact⟨some (_,[]),by simp,fun K=>rfl,fun K=>rfl⟩
        |_=>exact⟨none,by simp,fun K=>rfl,fun K=>rfl⟩
       |false =>
        cases hco:E.compact g with
        |true =>
         refine row o9 (fun S K Z=>(C S Z K).trans (hce g m V hco path true _ S.h _)) (by simp[cls,hc,m,V,hco]) fun x hx1=>?_;unfold o9
         cases x with
         |own id g =>
          have e3:=hx1 id (by simp[refs1,Ĕ]);simp only[e3]
          cases lkB h id with
          |row ty g' fz xs =>
           cases fz<;>simp only
           ·split
            ·split
             ·split
              ·exact⟨some (_,[(id,_)]),by simp[refs1,Ĕ],fun K=>rfl,fun K=>rfl⟩
              ·exact⟨none,by simp,fun K=>rfl,fun K=>rfl⟩
             ·exact⟨none,by simp,fun K=>rfl,fun K=>rfl⟩
            ·exact⟨none,by simp,fun K=>rfl,fun K=>rfl⟩
           ·exact⟨none,by simp,fun K=>rfl,fun K=>rfl⟩
          |_=>exact⟨none,by simp,fun K=>rfl,fun K=>rfl⟩
         |nils=>exact⟨some (_,[]),by simp,fun K=>rfl,fun K=>rfl⟩
         |_=>exact⟨none,by simp,fun K=>rfl,fun K=>rfl⟩
        |false=>simp[cls,hc,m,V,hco] at L
      |some p =>
       have h1c:1<=cls E (.call ⟨.value (.func g),d,tys⟩):=by simp only[cls,hc,m]; cases E.fz g<;>simp
       have hsa:∀a∈d.toList.map (ev t),nX h h2 a:=fun a ha=>by
        obtain⟨x,G,rfl⟩:=eN.1 ha;exact hs h1c x (j x G)
       obtain⟨u,f1,f2,f3⟩:=Ws (cs:=(d.toList.map (ev t)).flatMap mb) hlen fun c hcm id hi=>by
        obtain⟨a,ha,A⟩:=dY.1 hcm;refine(hsa a ha).one id ?_
        cases a<;>first
         |(simp only[mb,dB] at A; subst A; exact hi)
         |(simp only[mb,dB] at A; subst A; cases hi; done)
         |exact dY.2 ⟨c,A,hi⟩
       have f3':∀q∈u,∃x∈d.toList,q.1∈refs2 h (ev t x):=fun q hq=>by
        obtain⟨c,hcm,hi⟩:=f3 q hq;obtain⟨a,ha,A⟩:=dY.1 hcm;obtain⟨x,G,rfl⟩:=eN.1 ha;refine⟨x,G,?_⟩;simp only[refs2,dA];left;generalize ev t x=a at A
        cases a<;>first
         |(simp only[mb,dB] at A; subst A; exact hi)
         |(simp only[mb,dB] at A; subst A; cases hi; done)
         |exact dY.2 ⟨c,A,hi⟩
       have W:∀(b:Bool) (h':rT Blk),Ec h' p.ts (d.toList.map (ev t))=Ec h p.ts (d.toList.map (ev t))->Bj h' ((d.toList.map (ev t)).flatMap mb)=aps u h'->∀(K:AV->rT Blk->rF ρ),
        Vd b p h' (d.toList.map (ev t)) K=(match Ec h p.ts (d.toList.map (ev t)) with
        |some x=>(p.F x).bind fun y=>match MK (aaD p.rs y) with
         |true=>some (aaD p.rs y,[])
         |false=>match (d.toList.map (ev t)).all (fun a=>!QM a) with
          |true=>some (aaD p.rs y,[])
          |false=>match b||!(d.toList.map (ev t)).all aho with
           |true=>none
           |false=>some (aaD p.rs y,u)
        |none=>none).bind fun r=>K r.1 (aps r.2 h'):=fun b h' ha O K=>by
        unfold Vd Â;rw[ha,O]
        cases Ec h p.ts (d.toList.map (ev t)) with
        |none=>rfl
        |some x =>
         simp only
         cases p.F x with
         |none=>rfl
         |some y =>
          simp only[eV]
          cases MK (aaD p.rs y) with
          |true=>rfl
          |false=>cases(d.toList.map (ev t)).all (fun a=>!QM a) with
           |true=>rfl
           |false=>cases b||!(d.toList.map (ev t)).all aho<;>rfl
       refine⟨_,?_,fun K=>(C _ N K).trans ((k g p m path true _ h _).trans (W (true&&!E.fz g) h rfl f1 _)),fun K=>(C _ z K).trans (by simp only[he]; exact(k g p m path true _ h2 _).trans (W (true&&!E.fz g) h2 (UU hsa) f2 _))⟩;intro r e q hq
       have hcase:r.2=[]\/(E.fz g=true/\r.2=u):=by
        cases hA:Ec h p.ts (d.toList.map (ev t)) with
        |none=>rw[hA] at e; cases e
        |some x =>
         rw[hA] at e;simp only at e
         cases hF:p.F x with
         |none=>rw[hF] at e; cases e
         |some y =>
          rw[hF] at e;simp only[eV] at e
          split at e
          ·cases e; exact .inl rfl
          ·split at e
           ·cases e; exact .inl rfl
           ·split at e
            ·cases e
            ·rename_i hb;cases e;simp only[fw,Bool.or_eq_false_iff,ft] at hb;exact .inr ⟨hb.1,rfl⟩
       rcases hcase with hz|⟨hfz,hz⟩
       ·rw[hz] at hq; cases hq
       ·rw[hz] at hq;obtain⟨x,G,hi⟩:=f3' q hq;exact .inr ⟨by simp[cls,hc,m,hfz],(oY h1c).2 ⟨x,j x G,hi⟩⟩
    |tmp s =>
     rw[J] at hx hs L
     obtain⟨g,hg⟩:∃g,E.hint s=some g:=by
      cases hh:E.hint s with
      |none=>simp[cls,hh] at L
      |some g=>exact⟨g,rfl⟩
     have hpf:(E.pure g).isSome=true/\E.fz g=false:=by
      simp only[cls,hg] at L
      split at L
      ·rename_i hb; simpa using hb
      ·omega
     obtain⟨hpg,hfz⟩:=hpf;obtain⟨p,m⟩:=fZ.1 hpg
     have hcls:cls E (.call ⟨.value (.tmp s),d,tys⟩)=1:=by simp[cls,hg,m,hfz]
     have j:∀x∈d.toList,x∈(Op.call ⟨.value (.tmp s),d,tys⟩).operands.toList:=fun x G=>by simp[Op.operands,Call.operands]; exact .inr (by simpa using G)
     have hms:Operand.tmp s∈(Op.call ⟨.value (.tmp s),d,tys⟩).operands.toList:=by simp[Op.operands,Call.operands]
     have he:=M5 fun x G=>hx x (j x G)
     have X:UD E t (.call ⟨.value (.tmp s),d,tys⟩)=true:=by
      have h1:=N;unfold l8 at h1;rw[J] at h1
      have hb1:Nat.ble 1 (cls E (.call ⟨.value (.tmp s),d,tys⟩))=true:=by rw[hcls]; rfl
      simp only[hb1,dt] at h1;exact h1.2
     simp only[UD,hg] at X
     split at X<;>try (cases X; done)
     rename_i g' U T hfn;simp only[dt,dM] at X;obtain⟨hgg,hna,hnb⟩:=X;have hgg:g'=g:=dF hgg;subst hgg;have hfn2:=(hx _ hms).trans hfn
     have C:∀(S:St),l8 E S o.op=true->ev S.t (.tmp s)=.fn (.func g') U T->∀K,jQ E call fid path true S nid o K=call path true g' (U++(d.toList.map (ev S.t)++T)) S.h fun v h=>K v {t:=S.t,h:=h}:=fun S Z hSf K=>by
      simp only[iO]
      try simp only[Jq]
      simp only[Z,eo,fY];rw[J];simp only[hSf,abA,fY]
     rcases k with k|⟨k,hse,hce⟩
     ·exact .no (fun K=>by rw[C _ N hfn]; exact k _ _ _ _ _ _) (fun K=>by rw[C _ z hfn2]; exact k _ _ _ _ _ _)
     have hcap:∀v,(v∈U\/v∈T)->ani v=true->nX h h2 v:=fun v hv hn id hi=>by
      refine hs (by omega) _ hms id ?_;rw[hfn]
      have e1:Go.Am.refs1 v=agQ v:=by cases v<;>first|rfl|cases hn
      simp only[refs2,dA,dY,e1] at hi ⊢
      have hsub:∀i,i∈agQ v->i∈Go.Am.refs1 (.fn (.func g') U T):=fun i hi=>by
       simp only[Go.Am.refs1,dA,dY];exact hv.imp (fun h=>⟨v,h,hi⟩) fun h=>⟨v,h,hi⟩
      rcases hi with hi|⟨i,hi,q⟩
      ·exact .inl (hsub _ hi)
      ·exact .inr ⟨i,hsub _ hi,q⟩
     have hsa:∀a∈U++(d.toList.map (ev t)++T),nX h h2 a:=fun a ha=>by
      rcases dA.1 ha with ha|ha
      ·exact hcap a (.inl ha) (hna a ha)
      ·rcases dA.1 ha with ha|ha
       ·obtain⟨x,G,rfl⟩:=eN.1 ha;exact hs (by omega) x (j x G)
       ·exact hcap a (.inr ha) (hnb a ha)
     have W:∀(h':rT Blk),Ec h' p.ts (U++(d.toList.map (ev t)++T))=Ec h p.ts (U++(d.toList.map (ev t)++T))->∀(K:AV->rT Blk->rF ρ),
      Vd (true&&!E.fz g') p h' (U++(d.toList.map (ev t)++T)) K=(match Ec h p.ts (U++(d.toList.map (ev t)++T)) with
      |some x=>(p.F x).bind fun y=>match MK (aaD p.rs y) with
       |true=>some (aaD p.rs y,([]:rT (Nat×Blk)))
       |false=>match (U++(d.toList.map (ev t)++T)).all (fun a=>!QM a) with
        |true=>some (aaD p.rs y,[])
        |false=>none
      |none=>none).bind fun r=>K r.1 (aps r.2 h'):=fun h' ha K=>by
      unfold Vd Â;rw[ha,hfz]
      cases Ec h p.ts (U++(d.toList.map (ev t)++T)) with
      |none=>rfl
      |some x =>
       simp only
       cases p.F x with
       |none=>rfl
       |some y =>
        simp only[eV]
        cases MK (aaD p.rs y) with
        |true=>rfl
        |false=>cases(U++(d.toList.map (ev t)++T)).all (fun a=>!QM a)<;>rfl
     refine⟨_,?_,fun K=>(C _ N hfn K).trans ((k g' p m path true _ h _).trans (W h rfl _)),fun K=>(C _ z hfn2 K).trans (by simp only[he]; exact(k g' p m path true _ h2 _).trans (W h2 (UU hsa) _))⟩;intro r e q hq;exfalso
     cases hA:Ec h p.ts (U++(d.toList.map (ev t)++T)) with
     |none=>rw[hA] at e; cases e
     |some x =>
      rw[hA] at e;simp only at e
      cases hF:p.F x with
      |none=>rw[hF] at e; cases e
      |some y =>
       rw[hF] at e;simp only[eV] at e
       split at e
       ·cases e; cases hq
       ·split at e<;>cases e
        cases hq
    |_=>rw[J] at L; simp[cls] at L
   |_=>exact J▸plain fun _ _ _ O=>by rw[J] at O; cases O
  |_=>exact J▸plain fun _ _ _ O=>by rw[J] at O; cases O
def amN {l:rT Operand} (c:∀s∈SS l,lk t2 s=lk t s):∀x∈l,ev t2 x=ev t x:=by
 induction l with
 |nil=>intro x b; cases b
 |cons y l d =>
  intro x b;rcases dE.1 b with rfl|b
  ·cases x with
   |tmp i=>exact c i (by simp[SS])
   |_=>rfl
  ·refine d (fun s e=>c s ?_) x b
   cases y<;>simp[SS,e]
def acm:∀(t:rT AV) {d c:Nat} (v b:AV),d≠c->upd (upd t d v) c b=upd (upd t c b) d v
 |[],_,_,_,_,_=>rfl
 |_::_,0,0,_,_,h=>absurd rfl h
 |_::_,0,_+1,_,_,_=>rfl
 |_::_,_+1,0,_,_,_=>rfl
 |x::t,d+1,c+1,v,b,h=>by simp only[Xf,Xg,Xe]; rw[acm t v b (by omega)]
def Xi:∀(t:rT Blk) {d c:Nat} (v b:Blk),d≠c->î (î t d v) c b=î (î t c b) d v
 |[],_,_,_,_,_=>rfl
 |_::_,0,0,_,_,h=>absurd rfl h
 |_::_,0,_+1,_,_,_=>rfl
 |_::_,_+1,0,_,_,_=>rfl
 |x::t,d+1,c+1,v,b,h=>by simp only[Jc,Jd,Jb]; rw[Xi t v b (by omega)]
def MC {c b:rF Nat} (hd:∀x,c=some x->b≠some x) (e d:AV):ò (ò t c e) b d=ò (ò t b d) c e:=by
 cases c with
 |none=>rfl
 |some x=>cases b with
  |none=>rfl
  |some y=>exact acm t e d fun h=>hd x rfl (by rw[h])
def xr {d:rF Nat} {s:Nat} (hd:d≠some s) (v:AV):lk (ò t d v) s=lk t s:=by
 cases d with
 |none=>rfl
 |some x =>
  simp only[ò,adx];rw[if_neg];rintro⟨rfl,_⟩;exact hd rfl
def aec:∀{u v:rT (Nat×Blk)} {h:rT Blk},(∀p∈u,∀q∈v,p.1≠q.1)->aps v (aps u h)=aps u (aps v h)
 |[],_,_,_=>rfl
 |p::u,v,h,c=>by
  show aps v (aps u (î h p.1 p.2))=aps u (î (aps v h) p.1 p.2);rw[aec fun q b=>c q (by simp[b])];congr 1
  have:∀(v:rT (Nat×Blk)) (h:rT Blk),(∀q∈v,p.1≠q.1)->aps v (î h p.1 p.2)=î (aps v h) p.1 p.2:=by
   intro v
   induction v with
   |nil=>intro h _; rfl
   |cons q v d =>
    intro h b;show aps v (î (î h p.1 p.2) q.1 q.2)=î (aps v (î h q.1 q.2)) p.1 p.2;rw[Xi _ _ _ (b q (by simp)),d _ fun r e=>b r (by simp[e])]
  exact this v h (c p (by simp))
def Ş (all:rT Oper) (o:Oper) (t:rT AV):rF Bool :=
 match o.guard with
 |none=>some true
 |some (j,want)=>match lk t (oX all j) with
  |.bool b=>some (b==want)
  |.und=>some false
  |_=>none
def xi (E:Env ρ) (all:rT Oper) (o:Oper) (S:St):rT Nat :=
 match Ş all o S.t with
 |some true=>Bk E S o.op
 |_=>[]
def wV (E:Env ρ) (call:rT Nat->Bool->Nat->rT AV->rT Blk->(AV->rT Blk->rF ρ)->rF ρ) (fid:Nat) (path:rT Nat) (all:rT Oper) (b:rT Nat) (acc:rT (Nat×rT Nat)) (i nid:Nat) (o:Oper) (S:St) (K:rT Nat->St->rF ρ):rF ρ :=
 match Ş all o S.t==some true&&!chk E all b acc i (Bk E S o.op) with
 |true=>none
 |false=>pG E call fid path true all i nid o S (K (xi E all o S))
def ahb {E:Env ρ} {call:rT Nat->Bool->Nat->rT AV->rT Blk->(AV->rT Blk->rF ρ)->rF ρ} {fid:Nat} {path:rT Nat} {all:rT Oper} {c:rT Nat} {o:Oper} {os:rT Oper} {i nid:Nat} {acc:rT (Nat×rT Nat)} {S:St} {K:St->rF ρ} :
 ahc E call fid path all c (o::os) i nid acc S K=wV E call fid path all c acc i nid o S fun F m=>ahc E call fid path all c os (i+1) (bif Ā E.clone o.op then nid+1 else nid) ((i,F)::acc) m K:=by
 have k:∀d b,lk S.t d=.bool b->({t:=upd S.t d (.bool b),h:=S.h}:St)=S:=fun d b hb=>by rw[<-hb,Ei]
 have e:∀d b,lk S.t d=.bool b->upd S.t d (.bool b)=S.t:=fun d b hb=>by rw[<-hb,Ei]
 simp only[ahc,wV,pG,xi,Ş]
 cases o.guard with
 |none=>cases chk E all c acc i (Bk E S o.op)<;>rfl
 |some g =>
  obtain⟨j,l⟩:=g;simp only
  cases hb:lk S.t (oX all j)<;>try rfl
  rename_i b;have h1:=k _ b hb;have h2:=e _ b hb
  cases b<;>cases l<;>simp only[h1,h2]<;>first
   |rfl
   |(cases chk E all c acc i (Bk E S o.op)<;>rfl)
def GY {E:Env ρ} {o:Op} (i:∀x∈o.operands.toList,ev t2 x=ev t x) (j:1<=cls E o->∀x∈o.operands.toList,nX h h2 (ev t x)):Bk E {t:=t2,h:=h2} o=Bk E {t:=t,h:=h} o:=by
 unfold Bk
 split
 ·rename_i k;have c:1<=cls E o:=eE k
  have:∀l:rT Operand,(∀x∈l,x∈o.operands.toList)->(l.flatMap fun x=>refs2 h2 (ev t2 x))=l.flatMap fun x=>refs2 h (ev t x):=by
   intro l
   induction l with
   |nil=>intro _; rfl
   |cons x l d =>
    intro b;simp only[dR];rw[i x (b x (by simp)),(j c x (b x (by simp))).refs,d fun y e=>b y (by simp[e])]
  exact this _ fun _ h=>h
 ·rfl
def Jp {all:rT Oper} {o:Oper} (b:∀s∈ι all o,lk t2 s=lk t s):∀x∈o.op.operands.toList,ev t2 x=ev t x:=amN fun s c=>b s (by simp only[ι,dA]; exact .inr c)
def iz {all:rT Oper} {o:Oper} (c:∀s∈ι all o,lk t2 s=lk t s):Ş all o t2=Ş all o t:=by
 unfold Ş
 cases d:o.guard with
 |none=>rfl
 |some g =>
  obtain⟨j,b⟩:=g;simp only;rw[c _ (by simp[ι,d])]
def ako {E:Env ρ} {o:Op} (d:1<=cls E o) (b:l8 E {t:=t,h:=h} o=true):∀id∈Bk E {t:=t,h:=h} o,lkB h id≠.dead:=fun id hi hd=>by
 obtain⟨x,e,hi⟩:=(oY d).1 hi;unfold l8 at b;have c:Nat.ble 1 (cls E o)=true:=Nat.ble_eq_true_of_le d;simp only[c,Bool.and_eq_true,List.all_eq_true] at b;have:=b.1 x e id hi;rw[hd] at this;cases this
def LO {E:Env ρ} {call:rT Nat->Bool->Nat->rT AV->rT Blk->(AV->rT Blk->rF ρ)->rF ρ} {fid:Nat} {path:rT Nat} {all:rT Oper} {i nid:Nat} {o:Oper} (I:ρ)
 (A:akb E call) (C:cls E o.op<=2) (q:h2.length=h.length) (F:∀s∈ι all o,lk t2 s=lk t s)
 (L:Ş all o t=some true->1<=cls E o.op->∀x∈o.op.operands.toList,nX h h2 (ev t x)) :
 ∃φ:rF (AV×rT (Nat×Blk)),(∀r,φ=some r->∀p∈r.2,(p.1=nid/\Ā E.clone o.op=true)\/(cls E o.op=2/\p.1∈xi E all o {t:=t,h:=h})) /\
  (∀r,φ=some r->∀id∈xi E all o {t:=t,h:=h},lkB h id≠.dead) /\
  (∀K,pG E call fid path true all i nid o {t:=t,h:=h} K=φ.bind fun r=>K {t:=ò t o.dst r.1,h:=aps r.2 h}) /\
  ∀K,pG E call fid path true all i nid o {t:=t2,h:=h2} K=φ.bind fun r=>K {t:=ò t2 o.dst r.1,h:=aps r.2 h2}:=by
 have J:=Jp (t:=t) (t2:=t2) (o:=o) F;have d:=iz (t:=t) (t2:=t2) (o:=o) F
 cases e:Ş all o t with
 |none =>
  rw[e] at d
  have:∀(S:St),Ş all o S.t=none->∀K,pG E call fid path true all i nid o S K=none:=fun S c K=>by
   unfold Ş at c;unfold pG
   cases l:o.guard with
   |none=>rw[l] at c; cases c
   |some g =>
    obtain⟨j,k⟩:=g;rw[l] at c;simp only at c ⊢
    cases hb:lk S.t (oX all j)<;>rw[hb] at c<;>first|rfl|cases c
  exact⟨none,by simp,by simp,fun K=>this _ e K,fun K=>this _ d K⟩
 |some b =>
  cases b with
  |false =>
   rw[e] at d
   have:∀(S:St),Ş all o S.t=some false->∀K,pG E call fid path true all i nid o S K=K {t:=ò S.t o.dst .und,h:=S.h}:=fun S c K=>by
    unfold Ş at c;unfold pG
    cases l:o.guard with
    |none=>rw[l] at c; cases c
    |some g =>
     obtain⟨j,k⟩:=g;rw[l] at c;simp only at c ⊢
     cases hb:lk S.t (oX all j)<;>rw[hb] at c<;>first|rfl|(cases c; done)|skip
     simp only[Option.some.injEq] at c ⊢;rw[c]
   refine⟨some (.und,[]),?_,?_,fun K=>this _ e K,fun K=>this _ d K⟩
   ·intro r m p B;cases m;cases B
   ·intro r m id hi;simp only[xi,e] at hi;cases hi
  |true =>
   rw[e] at d
   have n:∀(S:St),Ş all o S.t=some true->∀K,pG E call fid path true all i nid o S K=jQ E call fid (path++[i]) true S nid o fun v S=>K {t:=ò S.t o.dst v,h:=S.h}:=fun S c K=>by
    unfold Ş at c;unfold pG
    cases l:o.guard with
    |none=>rfl
    |some g =>
     obtain⟨j,k⟩:=g;rw[l] at c;simp only at c ⊢
     cases hb:lk S.t (oX all j)<;>rw[hb] at c<;>first|(cases c; done)|skip
     simp only[Option.some.injEq] at c ⊢;rw[c]
   obtain⟨φ,h1,y,O⟩:=amU (fid:=fid) (path:=path++[i]) (nid:=nid) A C q J (L e)
   have u:xi E all o {t:=t,h:=h}=Bk E {t:=t,h:=h} o.op:=by simp only[xi,e]
   refine⟨φ,fun r m p B=>?_,fun r m id hi=>?_,fun K=>by rw[n _ e,y],fun K=>by rw[n _ d,O]⟩
   ·rw[u]; exact h1 r m p B
   ·rw[u] at hi
    by_cases N:1<=cls E o.op
    ·refine ako N ?_ id hi
     cases z:l8 E {t:=t,h:=h} o.op with
     |true=>rfl
     |false =>
      exfalso;have G:=y fun v S=>some I;rw[m] at G;simp[iO,z] at G
    ·rw[GW (by omega)] at hi;cases hi
def zK:∀{l m:rT Nat},disj l m=true↔∀x∈l,x∉m
 |[],m=>by simp[disj]
 |x::l,m=>by
  simp only[disj,dt,eQ,fB,dE,forall_eq_or_imp,zK (l:=l)];refine and_congr_left fun _=>⟨fun h c=>h x c (Nat.beq_refl x),fun h y b d=>?_⟩;have:=dF d;subst this;exact h b
structure amn (E:Env ρ) (all:rT Oper) (bef:rT Nat) (ia ib:Nat) (a b:Oper):Prop where
 ha:all[ia]?=some a
 hb:all[ib]?=some b
 a3:cls E a.op<=2
 b3:cls E b.op<=2\/cls E a.op=0
 rb:∀s∈ι all b,a.dst≠some s
 ra:∀s∈ι all a,b.dst≠some s
 dd:∀x,a.dst=some x->b.dst≠some x
 bab:(bef.getD ib 0).testBit ia=false
 bba:(bef.getD ia 0).testBit ib=false
def aiY (E:Env ρ) (o:Op):cls E o<=3:=by
 cases o with
 |call c =>
  obtain⟨f,d,tys⟩:=c
  cases f with
  |value f=>cases f<;>simp only[cls]<;>(repeat' split)<;>omega
  |builtin b=>cases b<;>simp[cls]
  |_=>simp[cls]
 |_=>simp[cls]
def abU {E:Env ρ} {all:rT Oper} {c:rT Nat} {ia ib:Nat} {a b:Oper} (e:alC E all a b=false) (ha:all[ia]?=some a) (hb:all[ib]?=some b) (h1:(c.getD ib 0).testBit ia=false) (h2:(c.getD ia 0).testBit ib=false):amn E all c ia ib a b:=by
 unfold alC at e;simp only[Bool.or_eq_false_iff,beq_eq_false_iff_ne] at e;obtain⟨⟨⟨⟨_,z,j⟩,m⟩,l⟩,k⟩:=e;have y:=aiY E a.op;have v:=aiY E b.op
 have i:cls E b.op<=2\/cls E a.op=0:=by
  by_cases u:cls E b.op=3
  ·rw[u] at j;right
   by_cases q:1<=cls E a.op
   ·rw[g8 q] at j; cases j
   ·omega
  ·left; omega
 refine⟨ha,hb,by omega,i,fun s d hd=>?_,fun s d hd=>?_,fun x o n=>?_,h1,h2⟩
 ·rw[hd] at m;simp[ak5,d] at m
 ·rw[hd] at l;simp[ak5,d] at l
 ·rw[o,n] at k;simp at k
def Ew {E:Env ρ} {all:rT Oper} {c:rT Nat} {j i:Nat} {a b:Oper} {e k:rT Nat} (d:Ex E all c j i e k=true) (ha:all[j]?=some a) (hb:all[i]?=some b) (h1:(c.getD j 0).testBit i=false) (h2:(c.getD i 0).testBit j=false)
 (l:CX E a.op b.op=true):∀x∈e,x∉k:=by
 unfold Ex at d;simp only[ha,hb,l,h1,h2,Bool.not_true,Bool.false_or,Bool.or_false] at d;exact zK.1 d
def abV {E:Env ρ} {a b:Op}:CX E a b=CX E b a:=by
 unfold CX; cases cls E a==2<;>cases cls E b==2<;>cases Nat.ble 1 (cls E a)<;>cases Nat.ble 1 (cls E b)<;>rfl
def aa0 {E:Env ρ} {all:rT Oper} {d:rT Nat} {j i:Nat} {e k:rT Nat} (c:Ex E all d j i e k=true):Ex E all d i j k e=true:=by
 unfold Ex at c ⊢;rw[Bool.or_eq_true] at c ⊢;rcases c with c|c
 ·exact .inl (zK.2 fun x m l=>zK.1 c x l m)
 refine .inr ?_
 cases ha:all[j]? with
 |none=>rw[ha] at c; cases c
 |some a=>cases hb:all[i]? with
  |none=>rw[ha,hb] at c; cases c
  |some b =>
   rw[ha,hb] at c;simp only[Bool.or_eq_true,eQ] at c ⊢;rw[abV];rcases c with c|c|c
   ·exact .inl c
   ·exact .inr (.inr c)
   ·exact .inr (.inl c)
def pC {E:Env ρ} {a b:Op}:CX E a b=true↔(cls E a=2/\1<=cls E b)\/(1<=cls E a/\cls E b=2):=by
 unfold CX;simp only[Bool.or_eq_true,Bool.and_eq_true,beq_iff_eq,Nat.ble_eq]
def pb {E:Env ρ} {all:rT Oper} {b:rT Nat} {acc:rT (Nat×rT Nat)} {p:Nat×rT Nat} {i:Nat} {F:rT Nat}:chk E all b (p::acc) i F=(Ex E all b p.1 i p.2 F&&chk E all b acc i F):=by
 simp[chk]
def HP {E:Env ρ} {all:rT Oper} {c:rT Nat} {j i:Nat} {a b:Oper} {d:rT Nat} (ha:all[j]?=some a) (hb:all[i]?=some b):Ex E all c j i d []=true:=by
 unfold Ex;rw[Bool.or_eq_true];exact .inl (zK.2 fun x _=>by simp)
def PX {E:Env ρ} {all:rT Oper} {o:Oper} (c:∀s∈ι all o,lk t2 s=lk t s) (e:Ş all o t=some true->1<=cls E o.op->∀x∈o.op.operands.toList,nX h h2 (ev t x)):xi E all o {t:=t2,h:=h2}=xi E all o {t:=t,h:=h}:=by
 unfold xi;simp only[iz (t:=t) (t2:=t2) c]
 cases d:Ş all o t with
 |none=>rfl
 |some b=>cases b with
  |false=>rfl
  |true=>exact GY (Jp c) (e d)
def afL {E:Env ρ} {o:Op} (h:cls E o=0):Ā E.clone o=false:=by
 cases o with
 |call c =>
  obtain⟨f,d,tys⟩:=c
  cases f with
  |value f=>cases f<;>simp only[cls] at h<;>(repeat' split at h)<;>first|omega|rfl|(cases h; done)
  |builtin b=>cases b<;>simp[cls] at h
  |_=>simp[cls] at h
 |_=>first|rfl|(simp[cls] at h; done)
def aiZ {E:Env ρ} {o:Op} (h:cls E o=0):Ul o=false:=by
 cases o with
 |call c =>
  obtain⟨f,b,tys⟩:=c
  cases f with
  |value f=>cases f<;>simp only[cls] at h<;>(repeat' split at h)<;>first|omega|(cases h; done)
  |_=>rfl
 |_=>rfl
def akD {E:Env ρ} {call:rT Nat->Bool->Nat->rT AV->rT Blk->(AV->rT Blk->rF ρ)->rF ρ} {fid:Nat} {path:rT Nat} {nid:Nat} {o:Oper} (d:cls E o.op=0) :
 ∃φ:rF AV,∀(t2:rT AV) (h2:rT Blk),(∀x∈o.op.operands.toList,ev t2 x=ev t x)->∀K,jQ E call fid path true {t:=t2,h:=h2} nid o K=φ.bind fun v=>K v {t:=t2,h:=h2}:=by
 have b:=aiZ d;have k:=afL d
 have q:∀S:St,∀K,jQ E call fid path true S nid o K=opK E.P S nid false o.op K:=fun S K=>by
  have n:l8 E S o.op=true:=by
   unfold l8
   have:Nat.ble 1 (cls E o.op)=false:=by rw[d]; rfl
   rw[this]
  have j:Qg E true fid o=false:=by
   unfold Qg
   cases s:o.op<;>first|rfl|(rw[s] at d; simp[cls] at d; done)
  simp only[iO]
  try simp only[Jq]
  simp only[n,j,eo,fY]
  cases i:o.op with
  |call c =>
   obtain⟨f,l,tys⟩:=c;rw[i] at b
   cases f with
   |value f=>cases b
   |_=>rfl
  |_=>rfl
 refine⟨opK E.P {t:=t,h:=[]} nid false o.op fun v _=>some v,fun t2 h2 m K=>?_⟩;rw[q,Vq]
 have:=amr (P:=E.P) (E:=E) (o:=o.op) (nid:=nid) (σ:=AV) (σ2:=AV×St) (t:=t) (t2:=t2) (h:=[]) (h2:=h2) (K:=fun v _=>some v) (K2:=fun v S=>some (v,S)) (R:=fun x y=>y=x.map fun v=>(v,({t:=t2,h:=h2}:St)))
  rfl (by omega) b m (fun h1=>by omega) fun v u e=>by
   cases u with
   |none=>rfl
   |some B=>rw[k] at e; exact absurd (e rfl) (by simp)
 unfold opR;rw[this]
 cases opK E.P {t:=t,h:=[]} nid false o.op (fun v _=>some v)<;>rfl
def agC {E:Env ρ} {call:rT Nat->Bool->Nat->rT AV->rT Blk->(AV->rT Blk->rF ρ)->rF ρ} {fid:Nat} {path:rT Nat} {all:rT Oper} {i nid:Nat} {o:Oper} (n:cls E o.op=0) (t:rT AV) :
 ∃φ:rF AV,∀(t2:rT AV) (h2:rT Blk),(∀s∈ι all o,lk t2 s=lk t s)->∀K,pG E call fid path true all i nid o {t:=t2,h:=h2} K=φ.bind fun v=>K {t:=ò t2 o.dst v,h:=h2}:=by
 obtain⟨φ,l⟩:=akD (call:=call) (fid:=fid) (path:=path++[i]) (nid:=nid) (t:=t) n
 cases m:Ş all o t with
 |none =>
  refine⟨none,fun t2 h2 k K=>?_⟩;have c:=(iz (t:=t) (t2:=t2) k).trans m;unfold Ş at c;unfold pG
  cases e:o.guard with
  |none=>rw[e] at c; cases c
  |some g =>
   obtain⟨j,d⟩:=g;rw[e] at c;simp only at c ⊢
   cases hb:lk t2 (oX all j)<;>rw[hb] at c<;>first|rfl|cases c
 |some b =>
  cases b with
  |false =>
   refine⟨some .und,fun t2 h2 k K=>?_⟩;have c:=(iz (t:=t) (t2:=t2) k).trans m;unfold Ş at c;unfold pG
   cases e:o.guard with
   |none=>rw[e] at c; cases c
   |some g =>
    obtain⟨j,d⟩:=g;rw[e] at c;simp only at c ⊢
    cases hb:lk t2 (oX all j)<;>rw[hb] at c<;>first|rfl|(cases c; done)|skip
    simp only[Option.some.injEq] at c ⊢;rw[c];rfl
  |true =>
   refine⟨φ,fun t2 h2 k K=>?_⟩;have c:=(iz (t:=t) (t2:=t2) k).trans m;have q:=l t2 h2 (Jp k);unfold Ş at c;unfold pG
   cases e:o.guard with
   |none=>exact q _
   |some g =>
    obtain⟨j,d⟩:=g;rw[e] at c;simp only at c ⊢
    cases hb:lk t2 (oX all j)<;>rw[hb] at c<;>first|(cases c; done)|skip
    simp only[Option.some.injEq] at c ⊢;rw[c];exact q _
def agK {E:Env ρ} {call:rT Nat->Bool->Nat->rT AV->rT Blk->(AV->rT Blk->rF ρ)->rF ρ} {fid:Nat} {path:rT Nat} {nid:Nat} {o:Oper} (d:cls E o.op=3) (k:∀x∈o.op.operands.toList,ev t2 x=ev t x) (K:AV->St->rF ρ) :
 jQ E call fid path true {t:=t2,h:=h} nid o K=jQ E call fid path true {t:=t,h:=h} nid o fun v S=>K v {t:=t2,h:=S.h}:=by
 have m:l8 E {t:=t2,h:=h} o.op=l8 E {t:=t,h:=h} o.op:=Qh k fun _ _ _ _ _=>rfl;simp only[iO]
 try simp only[Jq]
 rw[m]
 cases s:o.op with
 |call c =>
  obtain⟨f,e,tys⟩:=c;rw[s] at k d
  cases f with
  |value f =>
   have z:ev t2 f=ev t f:=k f (by simp[Op.operands,Call.operands]);have i:∀x∈e.toList,ev t2 x=ev t x:=fun x u=>k x (by simp[Op.operands,Call.operands]; exact .inr (by simpa using u));have A:=M5 i;simp only[z,A]
   cases j:ev t f with
   |fn g fa fb =>
    cases g with
    |func g =>
     simp only
     cases n:E.clone g&&abA f with
     |false=>rfl
     |true =>
      exfalso;rw[dt] at n
      cases f with
      |func g' =>
       have:g'=g:=by simp only[ev] at j; cases j; rfl
       subst this;simp[cls,n.1] at d
      |_=>simp[abA] at n
    |_=>rfl
   |yld =>
    simp only;rcases q:e.toList with _|⟨x,_|⟨y,l⟩⟩
    ·rfl
    ·simp only; rw[i x (by rw[q]; simp)]
    ·rfl
   |_=>rfl
  |builtin b=>cases b<;>simp[cls] at d
  |_=>rfl
 |_=>rw[s] at d; simp[cls] at d
def aet {E:Env ρ} {call:rT Nat->Bool->Nat->rT AV->rT Blk->(AV->rT Blk->rF ρ)->rF ρ} {fid:Nat} {path:rT Nat} {all:rT Oper} {i nid:Nat} {o:Oper} (m:cls E o.op=3) (e:∀s∈ι all o,lk t2 s=lk t s) :
 ∃Ψ:(AV->rT Blk->rF ρ)->rF ρ,(∀K,pG E call fid path true all i nid o {t:=t,h:=h} K=Ψ fun v h'=>K {t:=ò t o.dst v,h:=h'})/\∀K,pG E call fid path true all i nid o {t:=t2,h:=h} K=Ψ fun v h'=>K {t:=ò t2 o.dst v,h:=h'}:=by
 have d:∀t':rT AV,(∀s∈ι all o,lk t' s=lk t s)->∀K,pG E call fid path true all i nid o {t:=t',h:=h} K=(fun k:AV->rT Blk->rF ρ=>match Ş all o t with
  |none=>none
  |some false=>k .und h
  |some true=>jQ E call fid (path++[i]) true {t:=t,h:=h} nid o fun v S=>k v S.h) fun v h'=>K {t:=ò t' o.dst v,h:=h'}:=fun t' e K=>by
  have l:=iz (t:=t) (t2:=t') (o:=o) e;have n:=agK (call:=call) (fid:=fid) (path:=path++[i]) (nid:=nid) (h:=h) m (Jp e);rw[<-l];unfold Ş pG
  cases u:o.guard with
  |none=>exact n _
  |some g =>
   obtain⟨j,c⟩:=g;simp only
   cases hb:lk t' (oX all j) with
   |bool b =>
    simp only
    cases q:b==c with
    |true=>exact n _
    |false=>rfl
   |_=>rfl
 exact⟨fun k:AV->rT Blk->rF ρ=>match Ş all o t with
  |none=>none
  |some false=>k .und h
  |some true=>jQ E call fid (path++[i]) true {t:=t,h:=h} nid o fun v S=>k v S.h,d t fun _ _=>rfl,d t2 e⟩
def ZD {E:Env ρ} {all:rT Oper} {o:Oper} (b:cls E o.op=0) (S:St):xi E all o S=[]:=by
 unfold xi
 split
 ·exact GW b
 ·rfl
def swap0 {E:Env ρ} {call:rT Nat->Bool->Nat->rT AV->rT Blk->(AV->rT Blk->rF ρ)->rF ρ} {fid:Nat} {path:rT Nat} {all:rT Oper} {d:rT Nat} {acc:rT (Nat×rT Nat)} {ia na ib nb:Nat} {a b:Oper} {K:rT Nat->rT Nat->St->rF ρ} {r:ρ}
 (q:amn E all d ia ib a b) (ha:cls E a.op=0) (hb:cls E b.op=3)
 (e:wV E call fid path all d acc ia na a {t:=t,h:=h} (fun y S=>wV E call fid path all d ((ia,y)::acc) ib nb b S (K y))=some r) :
 wV E call fid path all d acc ib nb b {t:=t,h:=h} (fun I S=>wV E call fid path all d ((ib,I)::acc) ia na a S fun y=>K y I)=some r:=by
 obtain⟨φ,n⟩:=agC (call:=call) (fid:=fid) (path:=path) (all:=all) (i:=ia) (nid:=na) ha t;unfold wV at e
 split at e<;>try (cases e; done)
 rename_i k;rw[n t h fun _ _=>rfl] at e;obtain⟨u,J,m⟩:=ī e;simp only at m
 split at m<;>try (cases m; done)
 rename_i c;have j:∀s∈ι all b,lk (ò t a.dst u) s=lk t s:=fun s C=>xr (q.rb s C) _;obtain⟨Ψ,N,L⟩:=aet (call:=call) (fid:=fid) (path:=path) (all:=all) (i:=ib) (nid:=nb) (h:=h) hb j;rw[L] at m;have A:Ş all b (ò t a.dst u)=Ş all b t:=iz j;have F:Bk E {t:=ò t a.dst u,h:=h} b.op=Bk E {t:=t,h:=h} b.op:=GY (Jp j) fun _ _ _ _ _=>rfl;have G:xi E all b {t:=ò t a.dst u,h:=h}=xi E all b {t:=t,h:=h}:=PX j fun _ _ _ _ _ _=>rfl;unfold wV
 split
 ·rename_i z;exfalso;rw[F,A,pb] at c
  cases R:Ş all b t==some true<;>rw[R] at z c<;>simp only[Bool.false_and,fw,eQ,ft,dN] at z c
  rw[z,fY] at c;cases c
 ·rw[N];rw[<-m];congr 1;funext v h';have o:∀s∈ι all a,lk (ò t b.dst v) s=lk t s:=fun s C=>xr (q.ra s C) _;have B:Ş all a (ò t b.dst v)=Ş all a t:=iz o
  have l:¬((Ş all a (ò t b.dst v)==some true&&!chk E all d ((ib,xi E all b {t:=t,h:=h})::acc) ia (Bk E {t:=ò t b.dst v,h:=h'} a.op))=true):=by
   rw[B,GW ha,pb,HP q.hb q.ha,fw];rw[GW ha] at k;exact fC.1 k
  dsimp only
  split
  ·rename_i O; exact absurd O l
  ·rw[n _ _ o,J,eV,ZD ha,ZD ha,G,MC q.dd]
def swap {E:Env ρ} {call:rT Nat->Bool->Nat->rT AV->rT Blk->(AV->rT Blk->rF ρ)->rF ρ} {fid:Nat} {path:rT Nat} {all:rT Oper} {n:rT Nat} {acc:rT (Nat×rT Nat)} {ia na ib nb:Nat} {a b:Oper} {K:rT Nat->rT Nat->St->rF ρ} {r:ρ}
 (hpe:akb E call) (k:amn E all n ia ib a b) (hbd:Ā E.clone b.op=true->lkB h nb=.dead) (hn:Ā E.clone a.op=true->Ā E.clone b.op=true->na≠nb)
 (hfar1:Ā E.clone a.op=true->∀x∈b.op.operands.toList,na∉refs1 (ev t x))
 (hfar:1<=cls E b.op->Ā E.clone a.op=true->(∀p∈acc,∀c,all[p.1]?=some c->CX E c.op b.op=true->(n.getD ib 0).testBit p.1=false->(n.getD p.1 0).testBit ib=false->∀x∈b.op.operands.toList,∀id∈refs1 (ev t x),id∉p.2)->∀x∈b.op.operands.toList,na∉refs2 h (ev t x))
 (e:wV E call fid path all n acc ia na a {t:=t,h:=h} (fun Fa S=>wV E call fid path all n ((ia,Fa)::acc) ib nb b S (K Fa))=some r) :
 wV E call fid path all n acc ib nb b {t:=t,h:=h} (fun Fb S=>wV E call fid path all n ((ib,Fb)::acc) ia na a S fun Fa=>K Fa Fb)=some r:=by
 by_cases hb3:cls E b.op<=2
 case neg =>
  have:=aiY E b.op;exact swap0 k (k.b3.resolve_left hb3) (by omega) e
 -- what a does
 obtain⟨φa,a0,a1,a2,_⟩:=LO (t:=t) (t2:=t) (h:=h) (h2:=h) (call:=call) (fid:=fid) (path:=path) (i:=ia) (nid:=na) (all:=all) r hpe k.a3 rfl (fun _ _=>rfl) (fun _ _ _ _ _ _=>rfl);unfold wV at e
 split at e<;>try (cases e; done)
 rename_i J;rw[a2] at e;obtain⟨⟨Z,V⟩,q1,q2⟩:=ī e;simp only at q2
 split at q2<;>try (cases q2; done)
 rename_i d;have Y:=a1 _ q1;have hea:=a0 _ q1;simp only at hea
 -- b looks at the same
 have C:∀s∈ι all b,lk (ò t a.dst Z) s=lk t s:=fun s hs=>xr (k.rb s hs) _;have htb':∀s∈ι all b,lk t s=lk (ò t a.dst Z) s:=fun s hs=>(C s hs).symm;have N:=Jp C;have hwb:Ş all b (ò t a.dst Z)=Ş all b t:=iz C
 have B:1<=cls E b.op->Ş all b t=some true->chk E all n ((ia,xi E all a {t:=t,h:=h})::acc) ib (Bk E {t:=ò t a.dst Z,h:=aps V h} b.op)=true:=fun _ j=>by
  rw[hwb,j] at d;simpa using d
 have hone:Ş all b t=some true->1<=cls E b.op->∀x∈b.op.operands.toList,∀id∈refs1 (ev t x),lkB (aps V h) id=lkB h id:=fun j h1 x v id hi=>by
  refine UV fun p U m=>?_;rcases hea p U with⟨h2,o⟩|⟨h2,o⟩
  ·exact hfar1 o x v (by rw[<-h2,m]; exact hi)
  ·have F:=B h1 j;rw[pb,dt] at F;refine Ew F.1 k.ha k.hb k.bba k.bab (pC.2 (.inl ⟨h2,h1⟩)) p.1 o ?_;rw[m];refine(oY h1).2 ⟨x,v,?_⟩;rw[N x v];simp only[refs2,dA];exact .inl hi
 have hrefs:Ş all b t=some true->1<=cls E b.op->∀x∈b.op.operands.toList,refs2 (aps V h) (ev t x)=refs2 h (ev t x):=fun j h1 x v=>by
  have:∀(l:rT Nat),(∀id∈l,lkB (aps V h) id=lkB h id)->(l.flatMap fun id=>(Qs (lkB (aps V h) id)).flatMap Ĕ)=l.flatMap fun id=>(Qs (lkB h id)).flatMap Ĕ:=by
   intro l
   induction l with
   |nil=>intro _; rfl
   |cons y l ih=>intro hl; simp only[dR]; rw[hl y (by simp),ih fun id hi=>hl id (by simp[hi])]
  simp only[refs2];rw[this _ (hone j h1 x v)]
 have G:Ş all b t=some true->1<=cls E b.op->Ā E.clone a.op=true->∀x∈b.op.operands.toList,na∉refs2 h (ev t x):=fun j h1 h2=>hfar h1 h2 fun p U c hc1 hc2 hb1 hb2 x v id hi m=>by
  have F:=B h1 j;rw[pb,dt] at F;have hk2:=dM.1 F.2 p U;refine Ew hk2 hc1 k.hb hb2 hb1 hc2 id m ((oY h1).2 ⟨x,v,?_⟩);rw[N x v];simp only[refs2,dA];exact .inl hi
 have A:Ş all b t=some true->1<=cls E b.op->∀x∈b.op.operands.toList,nX h (aps V h) (ev t x):=fun j h1 x v id hi=>by
  refine UV fun p U m=>?_;rcases hea p U with⟨h2,o⟩|⟨h2,o⟩
  ·exact G j h1 o x v (by rw[<-h2,m]; exact hi)
  ·have F:=B h1 j;rw[pb,dt] at F;refine Ew F.1 k.ha k.hb k.bba k.bab (pC.2 (.inl ⟨h2,h1⟩)) p.1 o ?_;rw[m];refine(oY h1).2 ⟨x,v,?_⟩;rw[N x v,hrefs j h1 x v];exact hi
 -- what b does
 obtain⟨φb,b0,b1,b2,b3⟩:=LO (t:=t) (t2:=ò t a.dst Z) (h:=h) (h2:=aps V h) (call:=call) (fid:=fid) (path:=path) (i:=ib) (nid:=nb) (all:=all) r hpe hb3 (uC _ _) C A;have hfb:xi E all b {t:=ò t a.dst Z,h:=aps V h}=xi E all b {t:=t,h:=h}:=PX C A;rw[b3] at q2;obtain⟨⟨vb,eb⟩,q3,q4⟩:=ī q2;simp only at q4;rw[hfb] at q4;have heb:=b0 _ q3;simp only at heb;have hfo:Ş all b t=some true->Bk E {t:=ò t a.dst Z,h:=aps V h} b.op=Bk E {t:=t,h:=h} b.op:=fun j=>GY N (A j)
 -- a looks at the same
 have R:∀s∈ι all a,lk (ò t b.dst vb) s=lk t s:=fun s hs=>xr (k.ra s hs) _
 have I:CX E a.op b.op=true->∀id∈xi E all a {t:=t,h:=h},id∉xi E all b {t:=t,h:=h}:=fun hcl id hi hj=>by
  unfold xi at hj;simp only at hj
  split at hj
  ·rename_i j
   have h1:1<=cls E b.op:=by rcases pC.1 hcl with h|h<;>omega
   have F:=B h1 j;rw[pb,dt,hfo j] at F;exact Ew F.1 k.ha k.hb k.bba k.bab hcl id hi hj
  ·cases hj
 have u:Ş all a t=some true->1<=cls E a.op->∀x∈a.op.operands.toList,nX h (aps eb h) (ev t x):=fun j h1 x v id hi=>by
  have W:id∈xi E all a {t:=t,h:=h}:=by
   unfold xi;simp only[j];exact(oY h1).2 ⟨x,v,hi⟩
  refine UV fun p U m=>?_;rcases heb p U with⟨h2,o⟩|⟨h2,o⟩
  ·exact Y id W (by rw[<-m,h2]; exact hbd o)
  ·exact I (pC.2 (.inr ⟨h1,h2⟩)) id W (m▸o)
 obtain⟨φa',a0',a1',a2',a3'⟩:=LO (t:=t) (t2:=ò t b.dst vb) (h:=h) (h2:=aps eb h) (call:=call) (fid:=fid) (path:=path) (i:=ia) (nid:=na) (all:=all) r hpe k.a3 (uC _ _) R u;have hfa:xi E all a {t:=ò t b.dst vb,h:=aps eb h}=xi E all a {t:=t,h:=h}:=PX R u
 have o:pG E call fid path true all ia na a {t:=t,h:=h} (fun S=>K (xi E all a {t:=t,h:=h}) (xi E all b {t:=t,h:=h}) {t:=ò S.t b.dst vb,h:=aps eb S.h})=some r:=by rw[a2,q1]; exact q4
 rw[a2'] at o;obtain⟨⟨va',ea'⟩,q5,q6⟩:=ī o;simp only at q6;have X:=a0' _ q5;simp only at X
 have hcomm:aps eb (aps ea' h)=aps ea' (aps eb h):=aec fun p U q hq T=>by
  rcases X p U with⟨h2,o⟩|⟨h2,o⟩<;>rcases heb q hq with⟨h4,L⟩|⟨h4,L⟩
  ·exact hn o L (by rw[<-h2,<-h4]; exact T)
  ·-- b would write a's new block
   have j:Ş all b t=some true:=by
    unfold xi at L;simp only at L
    split at L
    ·assumption
    ·cases L
   have h5':q.1∈Bk E {t:=t,h:=h} b.op:=by
    unfold xi at L;simp only[j] at L;exact L
   obtain⟨x,v,hi⟩:=(oY (by omega)).1 h5';exact G j (by omega) o x v (by rw[<-h2,T]; exact hi)
  ·exact Y p.1 o (by rw[T,h4]; exact hbd L)
  ·exact I (pC.2 (.inl ⟨h2,by omega⟩)) p.1 o (by rw[T]; exact L)
 rw[MC k.dd,hcomm] at q6
 -- the checks
 have chb:(Ş all b t==some true&&!chk E all n acc ib (Bk E {t:=t,h:=h} b.op))=false:=by
  cases j:Ş all b t==some true with
  |false=>rfl
  |true =>
   have O:Ş all b t=some true:=by simpa using j
   rw[hwb,j] at d;simp only[fw,ft] at d ⊢;rw[pb,dt,hfo O] at d;exact d.2
 have cha:(Ş all a (ò t b.dst vb)==some true&&!chk E all n ((ib,xi E all b {t:=t,h:=h})::acc) ia (Bk E {t:=ò t b.dst vb,h:=aps eb h} a.op))=false:=by
  rw[iz R]
  cases j:Ş all a t==some true with
  |false=>rfl
  |true =>
   have O:Ş all a t=some true:=by simpa using j
   rw[j] at J;simp only[fw,ft] at J ⊢;rw[GY (Jp R) (u O),pb,dt];refine⟨aa0 ?_,J⟩
   have hfa0:xi E all a {t:=t,h:=h}=Bk E {t:=t,h:=h} a.op:=by simp only[xi,O]
   cases z:Ş all b t with
   |some wb=>cases wb with
    |true =>
     rw[hwb,z] at d;simp only[beq_self_eq_true,fw,ft] at d;rw[pb,dt,hfo z,hfa0] at d;simp only[xi,z];exact d.1
    |false=>simp only[xi,z]; exact HP k.ha k.hb
   |none=>simp only[xi,z]; exact HP k.ha k.hb
 unfold wV;simp only[chb];rw[b2,q3];simp only[Option.bind_some,cha];rw[a3',q5];simp only[Option.bind_some];rw[hfa];exact q6
abbrev Item:=Nat×Nat×Oper
def oh (clone:Nat->Bool):rT Oper->Nat->Nat->rT Item
 |[],_,_=>[]
 |o::os,i,nid=>(i,nid,o)::oh clone os (i+1) (bif Ā clone o.op then nid+1 else nid)
def acz (E:Env ρ) (call:rT Nat->Bool->Nat->rT AV->rT Blk->(AV->rT Blk->rF ρ)->rF ρ) (fid:Nat) (path:rT Nat) (all:rT Oper) (b:rT Nat):rT Item->rT (Nat×rT Nat)->St->(St->rF ρ)->rF ρ
 |[],_,S,K=>K S
 |x::l,acc,S,K=>wV E call fid path all b acc x.1 x.2.1 x.2.2 S fun F S=>acz E call fid path all b l ((x.1,F)::acc) S K
def Yi {E:Env ρ} {call:rT Nat->Bool->Nat->rT AV->rT Blk->(AV->rT Blk->rF ρ)->rF ρ} {fid:Nat} {path:rT Nat} {all:rT Oper} {b:rT Nat}:∀(os:rT Oper) (i nid:Nat) (acc:rT (Nat×rT Nat)) (S:St) (K:St->rF ρ),
 ahc E call fid path all b os i nid acc S K=acz E call fid path all b (oh E.clone os i nid) acc S K
 |[],_,_,_,_,_=>rfl
 |o::os,i,nid,acc,S,K=>by
  rw[ahb];simp only[oh,acz];congr 1;funext F S';exact Yi os _ _ _ S' K
def alF {E:Env ρ} {all:rT Oper} {c:rT Nat} {acc b:rT (Nat×rT Nat)} {i:Nat} {F:rT Nat} (h:∀p,p∈acc↔p∈b):chk E all c acc i F=chk E all c b i F:=by
 rw[eS];simp only[chk,dM]
 exact forall_congr' fun p=>by rw[h p]
def XB {E:Env ρ} {call:rT Nat->Bool->Nat->rT AV->rT Blk->(AV->rT Blk->rF ρ)->rF ρ} {fid:Nat} {path:rT Nat} {all:rT Oper} {c:rT Nat} {K:St->rF ρ}:∀(l:rT Item) {acc b:rT (Nat×rT Nat)} (S:St),(∀p,p∈acc↔p∈b) ->
 acz E call fid path all c l acc S K=acz E call fid path all c l b S K
 |[],_,_,_,_=>rfl
 |x::l,acc,b,S,h=>by
  simp only[acz,wV];rw[alF h]
  split
  ·rfl
  ·congr 1;funext S'
   exact XB l S' fun p=>by simp[h p]
def amG {E:Env ρ} {call:rT Nat->Bool->Nat->rT AV->rT Blk->(AV->rT Blk->rF ρ)->rF ρ} {fid:Nat} {path:rT Nat} {all:rT Oper} {j:rT Nat} {b:Item} {rest:rT Item} {K:St->rF ρ} {r:ρ} {h0:rT Blk} {t0:rT AV}
 (v:akb E call) :
 ∀(as:rT Item) (acc:rT (Nat×rT Nat)) (t:rT AV) (h:rT Blk),(∀a∈as,amn E all j a.1 b.1 a.2.2 b.2.2)->(∀s∈ι all b.2.2,lk t s=lk t0 s)->(Ā E.clone b.2.2.op=true->lkB h b.2.1=.dead) ->
  (∀a∈as,Ā E.clone a.2.2.op=true->Ā E.clone b.2.2.op=true->a.2.1≠b.2.1)->(∀a∈as,Ā E.clone a.2.2.op=true->∀x∈b.2.2.op.operands.toList,a.2.1∉refs2 h0 (ev t0 x)) ->
  (1<=cls E b.2.2.op->∀x∈b.2.2.op.operands.toList,∀id∈refs1 (ev t0 x),lkB h id=lkB h0 id\/∃p∈acc,(∃c,all[p.1]?=some c/\CX E c.op b.2.2.op=true/\(j.getD b.1 0).testBit p.1=false/\(j.getD p.1 0).testBit b.1=false)/\id∈p.2) ->
  acz E call fid path all j (as++b::rest) acc {t:=t,h:=h} K=some r->acz E call fid path all j (b::(as++rest)) acc {t:=t,h:=h} K=some r
 |[],acc,t,h,_,_,_,_,_,_,e=>e
 |a::as,acc,t,h,L,ht,A,Y,hfar,hinv,e=>by
  have C:=L a (by simp);have n:∀x∈b.2.2.op.operands.toList,ev t x=ev t0 x:=Jp ht
  have G:Ā E.clone a.2.2.op=true->∀x∈b.2.2.op.operands.toList,a.2.1∉refs1 (ev t x):=fun k x m hi=>hfar a (by simp) k x m (by
   rw[n x m] at hi;simp only[refs2,dA]
   exact .inl hi)
  simp only[eT,acz] at e ⊢
  have O:=swap (K:=fun T R S=>acz E call fid path all j (as++rest) ((b.1,R)::(a.1,T)::acc) S K) (r:=r) (t:=t) (h:=h) (acc:=acc) (ia:=a.1) (na:=a.2.1) (ib:=b.1) (nb:=b.2.1) (a:=a.2.2) (b:=b.2.2) (fid:=fid) (path:=path) v C A (Y a (by simp)) G
   (fun h1 k W x m=>by
    rw[n x m];have q:∀id∈refs1 (ev t0 x),lkB h id=lkB h0 id:=fun id hi=>(hinv h1 x m id hi).resolve_right fun⟨p,o,⟨c,c1,c2,c3,c4⟩,d⟩=>W p o c c1 c2 c3 c4 x m id (by rw[n x m]; exact hi) d
    have:refs2 h (ev t0 x)=refs2 h0 (ev t0 x):=by
     have V:∀(l:rT Nat),(∀id∈l,lkB h id=lkB h0 id)->(l.flatMap fun id=>(Qs (lkB h id)).flatMap Ĕ)=l.flatMap fun id=>(Qs (lkB h0 id)).flatMap Ĕ:=by
      intro l
      induction l with
      |nil=>intro _; rfl
      |cons y l ih=>intro hl; simp only[dR]; rw[hl y (by simp),ih fun id hi=>hl id (by simp[hi])]
     simp only[refs2];rw[V _ q]
    rw[this]
    exact hfar a (by simp) k x m) ?_
  ·have u:∀(T R:rT Nat) (S:St),acz E call fid path all j (as++rest) ((b.1,R)::(a.1,T)::acc) S K=acz E call fid path all j (as++rest) ((a.1,T)::(b.1,R)::acc) S K:=fun T R S=>XB _ S fun p=>by
    simp only[dE]
    constructor<;>rintro(h|h|h)<;>simp[h]
   simp only[u] at O;exact O
  ·-- behind a
   obtain⟨φa,a0,a1,a2,_⟩:=LO (t:=t) (t2:=t) (h:=h) (h2:=h) (call:=call) (fid:=fid) (path:=path) (i:=a.1) (nid:=a.2.1) (all:=all) r v C.a3 rfl (fun _ _=>rfl) (fun _ _ _ _ _ _=>rfl);unfold wV at e ⊢
   split at e<;>try (cases e; done)
   rename_i I;simp only[I];rw[a2] at e ⊢;obtain⟨⟨va,ea⟩,U,Z⟩:=ī e;rw[U];simp only[eV];have N:=a1 _ U;have z:=a0 _ U;simp only at z Z;refine amG v as _ _ _ (fun c J=>L c (by simp[J])) (fun s hs=>(xr (C.rb s hs) _).trans (ht s hs)) (fun k=>?_) (fun c J=>Y c (by simp[J])) (fun c J=>hfar c (by simp[J])) (fun h1 x m id hi=>?_) Z
   ·refine(UV fun p o d=>?_).trans (A k);rcases z p o with⟨h2,B⟩|⟨h2,B⟩
    ·exact Y a (by simp) B k (h2.symm.trans d)
    ·exact N p.1 B (by rw[d]; exact A k)
   ·by_cases F:∃p∈ea,p.1=id
    ·obtain⟨p,o,d⟩:=F;rcases z p o with⟨h2,B⟩|⟨h2,B⟩
     ·exfalso;exact G B x m (by rw[n x m,<-h2,d]; exact hi)
     ·exact .inr ⟨(a.1,_),List.mem_cons_self ..,⟨a.2.2,C.ha,pC.2 (.inl ⟨h2,h1⟩),C.bab,C.bba⟩,d▸B⟩
    ·have X:lkB (aps ea h) id=lkB h id:=UV fun p o d=>F ⟨p,o,d⟩;rw[X];rcases hinv h1 x m id hi with h2|⟨p,o,h2⟩
     ·exact .inl h2
     ·exact .inr ⟨p,by simp[o],h2⟩
section
variable {ν:Nat->Value} {w:World}
def VR0.refs {a:AV} {v:Value} (c:VR0 ν h w a v):∀id∈Ĕ a,lkB h id≠.dead:=by
 intro id hi hd
 cases a<;>simp only[Ĕ,dB,fS] at hi
 ·subst hi; obtain⟨_,t,g',fz,xs,b,_⟩:=c; rw[hd] at b; cases b
 ·subst hi; obtain⟨_,t,g',fz,xs,b,_⟩:=c; rw[hd] at b; cases b
 ·subst hi; obtain⟨_,t,g',fz,b,_⟩:=c; rw[hd] at b; cases b
 ·subst hi; obtain⟨_,_,b,_⟩:=c; rw[hd] at b; cases b
 ·subst hi; obtain⟨_,t,g',fz,xs,b,_⟩:=c; rw[hd] at b; cases b
 ·subst hi; obtain⟨_,es,b,_⟩:=c; rw[hd] at b; cases b
 ·subst hi; obtain⟨_,s,q,b,_⟩:=c; rw[hd] at b; cases b
def VR1.refs {a:AV} {v:Value} (b:VR1 ν h w a v):∀id∈Ĕ a,lkB h id≠.dead:=by
 cases c:a.isFn with
 |true=>cases a<;>first|(cases c; done)|(intro id hi; cases hi)
 |false=>rw[wU c] at b; exact b.refs
def ÿ.left_mem {α β:Type} {R:α->β->Prop}:∀{l:rT α} {m:rT β},ÿ R l m->∀a∈l,∃b∈m,R a b
 |[],_,_,a,ha=>by cases ha
 |x::l,y::m,h,a,ha=>by
  rcases dE.1 ha with rfl|ha
  ·exact⟨y,by simp,h.1⟩
  ·obtain⟨b,hb,c⟩:=ÿ.left_mem h.2 a ha;exact⟨b,by simp[hb],c⟩
 |_::_,[],h,_,_=>h.elim
def VR.refs1 {a:AV} {v:Value} (j:VR ν h w a v):∀id∈Go.Am.refs1 a,lkB h id≠.dead:=by
 cases d:a.isAgg with
 |true =>
  cases a<;>try cases d
  obtain⟨us,_,h2⟩:=j;intro id hi;simp only[Go.Am.refs1,dY] at hi;obtain⟨c,i,hi⟩:=hi;obtain⟨u,_,b⟩:=h2.left_mem c i;exact b.1.refs id hi
 |false =>
  cases e:a.isTup with
  |true=>cases a<;>first|(cases e; done)|(intro id hi; cases hi)
  |false =>
   have h1:=j.one d e;have h2:=h1.refs
   cases a with
   |fn f fa fb =>
    obtain⟨fs,cs,_,l,k⟩:=h1
    have one:∀c u,VR0 ν h w c u->∀id∈agQ c,lkB h id≠.dead:=fun c u b id hi=>by
     cases c with
     |agg=>exact b.elim
     |_=>exact b.refs id hi
    intro id hi;simp only[Go.Am.refs1,dA,dY] at hi;rcases hi with⟨c,i,hi⟩|⟨c,i,hi⟩
    ·obtain⟨u,_,b⟩:=l.left_mem c i;exact one c u b id hi
    ·obtain⟨u,_,b⟩:=k.left_mem c i;exact one c u b id hi
   |agg=>cases d
   |_=>exact h2
def VR.refs2 (H:HR ν h w) {a:AV} {v:Value} (l:VR ν h w a v):∀id∈Go.Am.refs2 h a,lkB h id≠.dead:=by
 intro id hi;simp only[Go.Am.refs2,dA,dY] at hi;rcases hi with hi|⟨j,q,c,d,hi⟩
 ·exact l.refs1 id hi
 ·have k:=H.blk j
  cases i:lkB h j with
  |cells cs =>
   rw[i] at k d;obtain⟨b,o,e,_,_,n⟩:=k;obtain⟨u,_,m⟩:=n.left_mem c d;exact m.1.refs id hi
  |_=>rw[i] at d; cases d
end
end
end Go.Am
end

noncomputable section
namespace Go.Am
variable [Globs] [Ghost]
section
variable {ρ:Type} {ν:Nat->Value} {h:rT Blk} {w:World}
def ajF (acc:rT Nat) (o:Oper):Nat:=o.after.toList.foldl (fun s e=>if Region.binds .any e then s ||| 2 ^ e.on ||| acc.getD e.on 0 else s) 0
def I5:∀(os:rT Oper) (acc:rT Nat),∃l,Ť os acc=acc++l/\∀(k:Nat) (o:Oper),os[k]?=some o->(acc++l).getD (acc.length+k) 0=ajF ((acc++l).take (acc.length+k)) o
 |[],acc=>⟨[],by simp[Ť],by simp⟩
 |o::os,acc=>by
  obtain⟨l,h1,h2⟩:=I5 os (acc++[ajF acc o]);refine⟨ajF acc o::l,?_,?_⟩
  ·simp only[Ť];show Ť os (acc++[ajF acc o])=_;rw[h1]; simp
  ·intro k o' b
   cases k with
   |zero =>
    simp only[fi,Option.some.injEq] at b;subst b;simp[List.getD]
   |succ k =>
    have:=h2 k o' (by simpa using b);simp only[dH,List.singleton_append,dw,eX] at this;rw[show acc.length+(k+1)=acc.length+1+k by omega];exact this
def ajE {os:rT Oper} {k:Nat} {o:Oper} (b:os[k]?=some o):(Ť os []).getD k 0=ajF ((Ť os []).take k) o:=by
 obtain⟨l,h1,h2⟩:=I5 os [];rw[h1];simpa using h2 k o b
def Wu {acc:rT Nat} {i:Nat}:∀(es:rT Edge) (s:Nat),(es.foldl (fun s e=>if Region.binds .any e then s ||| 2 ^ e.on ||| acc.getD e.on 0 else s) s).testBit i=true ->
 s.testBit i=true\/∃e∈es,Region.binds .any e=true/\(i=e.on\/(acc.getD e.on 0).testBit i=true)
 |[],s,h=>.inl h
 |e::es,s,h=>by
  simp only[ee] at h;rcases Wu es _ h with h1|⟨c,b,h1⟩
  ·split at h1
   ·rename_i hb;simp only[Nat.testBit_or,Bool.or_eq_true,Nat.testBit_two_pow,decide_eq_true_eq] at h1;rcases h1 with(h1|h1)|h1
    ·exact .inl h1
    ·exact .inr ⟨e,by simp,hb,.inl h1.symm⟩
    ·exact .inr ⟨e,by simp,hb,.inr h1⟩
   ·exact .inl h1
  ·exact .inr ⟨c,by simp[b],h1⟩
def zJ {E:Env ρ} {all:rT Oper} {e:rT Nat}:∀{j:rT Oper} {c:Nat},AR E all e j c=true->∀(k:Nat) (b:Oper),j[k]?=some b->∀(i:Nat) (a:Oper),i<c+k->all[i]?=some a->alC E all a b=false\/(e.getD (c+k) 0).testBit i=true
 |[],_,_,k,b,d,_,_,_,_=>by simp at d
 |x::j,c,h,k,b,d,i,a,hi,ha=>by
  simp only[AR,dt,dM,List.mem_range] at h
  cases k with
  |zero =>
   simp only[fi,Option.some.injEq] at d;subst d;have:=h.1 i (by omega);rw[ha] at this;simp only[Bool.or_eq_true,eQ] at this;simpa using this
  |succ k =>
   have:=zJ h.2 k b (by simpa using d) i a (by omega) ha
   rwa [show c+1+k=c+(k+1) by omega] at this
def vW:∀{os:rT Oper} {j:Nat},aak os j=true->∀(k:Nat) (o:Oper),os[k]?=some o->∀e∈o.after,Region.binds .any e=true->e.on<j+k
 |[],_,_,k,o,b,_,_,_=>by simp at b
 |x::os,j,h,k,o,b,e,c,hb=>by
  simp only[aak,dt,dM] at h
  cases k with
  |zero =>
   simp only[fi,Option.some.injEq] at b;subst b;have:=h.1 e (by simpa using c);simp only[hb,eo,Bool.false_or,decide_eq_true_eq] at this;omega
  |succ k =>
   have:=vW h.2 k o (by simpa using b) e c hb;omega
def bef_lt {os:rT Oper} (hb:aak os 0=true):∀(j i:Nat),((Ť os []).getD j 0).testBit i=true->i<j:=by
 intro j
 induction j using Nat.strongRecOn with
 |ind j e =>
  intro i hi
  cases d:os[j]? with
  |none =>
   obtain⟨l,h1,_⟩:=I5 os []
   have c:∀(os:rT Oper) (acc:rT Nat),(Ť os acc).length=acc.length+os.length:=by
    intro os
    induction os with
    |nil=>intro acc; simp[Ť]
    |cons o os e=>intro acc; simp only[Ť]; rw[e]; simp; omega
   have:(Ť os [])[j]?=none:=by
    rw[List.getElem?_eq_none_iff] at d ⊢;rw[c]; simpa using d
   simp[List.getD,this] at hi
  |some o =>
   rw[ajE d] at hi;rcases Wu _ _ hi with m|⟨ed,h1,h2,k⟩
   ·simp at m
   ·have b:=vW hb j o d ed (by simpa using h1) h2;rw[dW] at b;rcases k with rfl|k
    ·exact b
    ·have:((Ť os []).getD ed.on 0).testBit i=true:=by
      rw[<-k];congr 1;simp only[List.getD,eI];rw[if_pos (by omega)]
     exact Nat.lt_trans (e ed.on b i this) b
def qp {clone:Nat->Bool}:∀{os:rT Oper} {i nid:Nat} {x:Item},x∈oh clone os i nid->∃k,os[k]?=some x.2.2/\x.1=i+k/\nid<=x.2.1/\(Ā clone x.2.2.op=true->x.2.1<nid+ο clone os)
 |[],_,_,_,c=>by cases c
 |o::os,i,nid,x,c=>by
  simp only[oh,dE] at c;rcases c with rfl|c
  ·exact⟨0,by simp,rfl,du _,fun h=>by rw[mU]; simp only at h; rw[h]; simp⟩
  ·obtain⟨k,h1,h2,d,e⟩:=qp c;refine⟨k+1,by simpa using h1,by omega,?_,fun h=>?_⟩
   ·cases b:Ā clone o.op<;>rw[b] at d<;>simp at d<;>omega
   ·have:=e h;rw[mU]
    cases b:Ā clone o.op<;>rw[b] at this<;>simp at this ⊢<;>omega
def GM {clone:Nat->Bool}:∀{os:rT Oper} {i nid k:Nat} {o:Oper},os[k]?=some o->∃n,(i+k,n,o)∈oh clone os i nid
 |[],_,_,k,_,h=>by simp at h
 |x::os,i,nid,0,o,h=>by
  simp only[fi,Option.some.injEq] at h;subst h;exact⟨nid,by simp[oh]⟩
 |x::os,i,nid,k+1,o,h=>by
  obtain⟨n,b⟩:=GM (clone:=clone) (i:=i+1) (nid:=bif Ā clone x.op then nid+1 else nid) (os:=os) (k:=k) (o:=o) (by simpa using h);exact⟨n,by simp only[oh,dE]; right; rwa [show i+(k+1)=i+1+k by omega]⟩
def IE {clone:Nat->Bool}:∀{os:rT Oper} {i nid:Nat},(oh clone os i nid).Pairwise fun x y=>x.1<y.1/\(Ā clone x.2.2.op=true->x.2.1<y.2.1)
 |[],_,_=>List.Pairwise.nil
 |o::os,i,nid=>by
  refine List.Pairwise.cons (fun y d=>?_) IE;obtain⟨k,_,h2,c,_⟩:=qp d;refine⟨by simp only; omega,fun b=>?_⟩;simp only at b;rw[b] at c;simp at c ⊢;omega
def afB {l:rT Item} {p e:Item->Bool} {b:Item} (m:l.Pairwise fun x y=>x.1<y.1) (hb:b∈l) (k:p b=true) (d:∀x∈l,e x=(p x&&x.1 != b.1)) :
 ∃as rest,l.filter p=as++b::rest/\l.filter e=as++rest/\∀a∈as,a∈l/\p a=true/\a.1<b.1:=by
 obtain⟨j,i,rfl⟩:=List.append_of_mem hb;rw[List.pairwise_append] at m;obtain⟨_,h2,o⟩:=m;have h1:∀x∈j,x.1<b.1:=fun x c=>o x c b (by simp);have n:∀x∈i,b.1<x.1:=fun x c=>(dU.1 h2).1 x c;refine⟨j.filter p,i.filter p,by simp[k],?_,fun a ha=>?_⟩
 ·have u:j.filter e=j.filter p:=List.filter_congr fun x c=>by
   rw[d x (by simp[c])]
   have:(x.1 != b.1)=true:=by have:=h1 x c; simp; omega
   rw[this]; simp
  have s:i.filter e=i.filter p:=List.filter_congr fun x c=>by
   rw[d x (by simp[c])]
   have:(x.1 != b.1)=true:=by have:=n x c; simp; omega
   rw[this]; simp
  have q:e b=false:=by rw[d b (by simp)]; simp
  simp[u,s,q]
 ·rw[fD] at ha;exact⟨by simp[ha.1],ha.2,h1 a ha.1⟩
def acI {α:Type} {R:α->α->Prop}:∀{l:rT α},l.Pairwise R->∀x∈l,∀y∈l,x=y\/R x y\/R y x
 |[],_,_,c,_,_=>by cases c
 |z::l,h,x,c,y,b=>by
  rw[dU] at h;rcases dE.1 c with c|c
  ·rcases dE.1 b with b|b
   ·exact .inl (c.trans b.symm)
   ·rw[c]; exact .inr (.inl (h.1 y b))
  ·rcases dE.1 b with b|b
   ·rw[b]; exact .inr (.inr (h.1 x c))
   ·exact acI h.2 x c y b
def alz {E:Env ρ} {call:rT Nat->Bool->Nat->rT AV->rT Blk->(AV->rT Blk->rF ρ)->rF ρ} {L:Nat} (hE:jM E L call) {fid:Nat} {path:rT Nat} {d:Array Oper} (hp:path.length+1=L) (hg:sj d.toList d.toList=true)
 (hd:aiT E d.toList=true) {base:Nat} {K:St->rF ρ} {r:ρ} {Q:Exit->Act->World->Prop} {m:Nat} (hmb:m<=base) :
 ∀(C:Nat) (c:Array Bool) (acc:rT (Nat×rT Nat)) (S:St) (a:Act) (ν:Nat->Value) (w:World),c.size=d.size ->
  (∀j i,c.getD j false=true->((Ť d.toList []).getD j 0).testBit i=true->c.getD i false=true) ->
  ((oh E.clone d.toList 0 base).filter fun x=>!c.getD x.1 true).length=C->Sim ν S a w ->
  (∀x∈(oh E.clone d.toList 0 base).filter fun x=>!c.getD x.1 true,Ā E.clone x.2.2.op=true->x.2.1<S.h.length/\lkB S.h x.2.1=.dead)->m<=S.h.length ->
  acz E call fid path d.toList (Ť d.toList []) ((oh E.clone d.toList 0 base).filter fun x=>!c.getD x.1 true) acc S K=some r ->
  (∀ν' X a' w',Sim ν' X a' w'->Ev m ν S.h w ν' X.h w'->m<=X.h.length->Dd m S.h X.h->K X=some r->Q .normal a' w') ->
  wpAnyIn fen 0 E.P .any d Q C c a w:=by
 simp only[aiT,dt] at hd;obtain⟨G,hdr⟩:=hd
 have B:∀{c:Array Bool} {j:Nat},c.size=d.size->j<d.size->c.getD j true=c.getD j false:=fun {c j} hs hj=>by
  have:j<c.size:=by omega
  simp[this]
 have hpw:=(IE (clone:=E.clone) (os:=d.toList) (i:=0) (nid:=base)).imp fun {x y} h=>h.1;intro C
 induction C with
 |zero =>
  intro c acc S a ν w R hcl A H z hm e hQ;have Y:=dZ.1 A;refine⟨?_,?_⟩
  ·rw[List.eq_nil_iff_forall_not_mem];intro j hj;obtain⟨h0,o,ho,_⟩:=mem_ready.1 hj;obtain⟨n,hn⟩:=GM (clone:=E.clone) (i:=0) (nid:=base) (os:=d.toList) (k:=j) (o:=o) (by simpa using ho);have:(0+j,n,o)∈(oh E.clone d.toList 0 base).filter fun x=>!c.getD x.1 true:=fD.2 ⟨hn,by simp only[dW]; rw[h0]; rfl⟩;rw[Y] at this;cases this
  ·rw[Y] at e;exact hQ ν S a w H (Ev.refl _ _ _ _) hm (Dd.refl _ _) e
 |succ C ih =>
  intro c acc S a ν w R hcl A H z hm e hQ;refine⟨fun hr=>?_,fun j hj=>?_⟩
  ·-- the first of those that are left is ready
   exfalso
   cases q:(oh E.clone d.toList 0 base).filter fun x=>!c.getD x.1 true with
   |nil=>rw[q] at A; simp at A
   |cons x l =>
    have s:x∈(oh E.clone d.toList 0 base).filter fun x=>!c.getD x.1 true:=by rw[q]; simp
    rw[fD] at s;obtain⟨k,h1,h2,_⟩:=qp s.1
    have hk:x.1=k:=by omega
    have I:x.1∈Region.ready .any d c:=mem_ready.2 ⟨by simpa using s.2,x.2.2,by rw[hk]; simpa using h1,fun ed hed hb=>by
     have hlt:=vW G k x.2.2 h1 ed hed hb
     have hks:k<d.size:=by
      have:=(dC.1 h1).1;simpa using this
     cases hl:c.getD ed.on false with
     |true=>rfl
     |false =>
      exfalso;obtain⟨o',ho'⟩:∃o',d.toList[ed.on]?=some o':=⟨_,dv (by simp; omega)⟩;obtain⟨n,hn⟩:=GM (clone:=E.clone) (i:=0) (nid:=base) ho'
      have V:(0+ed.on,n,o')∈x::l:=by
       rw[<-q];refine fD.2 ⟨hn,?_⟩;simp only[dW];rw[B R (by omega),hl];rfl
      have hpl:(x::l).Pairwise fun x y=>x.1<y.1:=by rw[<-q]; exact hpw.filter _
      rcases dE.1 V with W|W
      ·rw[<-W] at hk; simp at hk; omega
      ·have:=(dU.1 hpl).1 _ W
       simp only at this; omega⟩
    rw[hr] at I;cases I
  ·obtain⟨h0,o,ho,hed⟩:=mem_ready.1 hj;have hjs:j<d.size:=(fH.1 ho).1
   have O:d.toList[j]?=some o:=by simpa using ho
   obtain⟨n,hn⟩:=GM (clone:=E.clone) (i:=0) (nid:=base) O;rw[dW] at hn
   have hpp:∀x∈oh E.clone d.toList 0 base,(fun x:Item=>!(c.setIfInBounds j true).getD x.1 true) x=((fun x:Item=>!c.getD x.1 true) x&&x.1 != j):=fun x s=>by
    by_cases N:x.1=j
    ·simp only[N]
     have:j<c.size:=by omega
     simp[this]
    ·have h1:(c.setIfInBounds j true).getD x.1 true=c.getD x.1 true:=getD_set_ne true (Ne.symm N)
     have h2:(x.1 != j)=true:=by simpa using N
     simp only[h1,h2,Bool.and_true]
   obtain⟨as,rest,f1,f2,f3⟩:=afB (b:=(j,n,o)) hpw hn (by simp only[h0]; rfl) hpp
   have hbit:∀i,((Ť d.toList []).getD j 0).testBit i=true->c.getD i false=true:=fun i hi=>by
    rw[ajE O] at hi;rcases Wu _ _ hi with hz|⟨ed,h1,h2,W⟩
    ·simp at hz
    ·have hl:=hed ed (by simpa using h1) h2;rcases W with rfl|W
     ·exact hl
     ·refine hcl ed.on i hl ?_;have hlt:=vW G j o O ed (by simpa using h1) h2;rw[<-W];congr 1;simp only[List.getD,eI];rw[if_pos (by omega)]
   have T:=IE (clone:=E.clone) (os:=d.toList) (i:=0) (nid:=base)
   have F:((j,n,o):Item)∈(oh E.clone d.toList 0 base).filter fun x=>!c.getD x.1 true:=by rw[f1]; simp
   have hne:∀x∈(oh E.clone d.toList 0 base).filter (fun x=>!c.getD x.1 true),x≠(j,n,o)->Ā E.clone x.2.2.op=true->Ā E.clone o.op=true->x.2.1≠n:=fun x s N h1 h2=>by
    have hsub:((oh E.clone d.toList 0 base).filter fun x=>!c.getD x.1 true).Pairwise fun x y=>x.1<y.1/\(Ā E.clone x.2.2.op=true->x.2.1<y.2.1):=T.filter _;rcases acI hsub x s _ F with he|hr|hr
    ·exact absurd he N
    ·exact gu (hr.2 h1)
    ·exact(gu (hr.2 h2)).symm
   rw[f1] at e
   have e':=amG (b:=(j,n,o)) (h0:=S.h) (t0:=S.t) (K:=K) (r:=r) hE.pureEq as acc S.t S.h (fun x s=>by
    obtain⟨g1,g2,g3⟩:=f3 x s;obtain⟨k,h1,h2,_⟩:=qp g1
    have hk:x.1=k:=by omega
    have hkj:k<j:=by simp only at g3; omega
    have hnb:((Ť d.toList []).getD j 0).testBit k=false:=by
     cases hb:((Ť d.toList []).getD j 0).testBit k with
     |false=>rfl
     |true =>
      exfalso;have hl:=hbit k hb;simp only[eQ] at g2;rw[B R (by omega),hk,hl] at g2;cases g2
    have Z:((Ť d.toList []).getD k 0).testBit j=false:=by
     cases hb:((Ť d.toList []).getD k 0).testBit j with
     |false=>rfl
     |true=>have:=bef_lt G k j hb; omega
    have:=zJ hdr j o O k x.2.2 (by omega) h1;rw[dW,hnb] at this;rw[<-hk] at h1 hnb Z
    exact abU (this.resolve_right (by simp)) h1 O hnb Z)
    (fun _ _=>rfl)
    (fun J=>(z _ F J).2)
    (fun x s h1 h2=>hne x (by rw[f1]; simp[s]) (fun he=>by
     have:=(f3 x s).2.2;rw[he] at this
     simp at this) h1 h2)
    (fun x s h1 y hy hmem=>VR.refs2 H.heap (Ĉ H y) _ hmem ((z x (by rw[f1]; simp[s]) h1).2)) (fun _ _ _ _ _=>.inl rfl) e
   simp only[acz,wV] at e'
   split at e'<;>try (cases e'; done)
   refine Mw hE.call hE.plain hE.clone hE.yld hg hp ho H (fun J=>z _ F J) e' fun ν' w' u v X g1 g2 g3 g4 g5 g6 g7=>?_;have q:((oh E.clone d.toList 0 base).filter fun x=>!(c.setIfInBounds j true).getD x.1 true)=as++rest:=f2
   have V:∀x∈as++rest,x∈(oh E.clone d.toList 0 base).filter fun x=>!c.getD x.1 true:=fun x s=>by
    rw[f1]
    rcases dA.1 s with s|s<;>simp[s]
   have hnj:∀x∈as++rest,x≠(j,n,o):=fun x s he=>by
    rw[<-q,fD] at s;rw[he] at s
    have hlt:j<c.size:=by omega
    simp[hlt] at s
   have hm':m<=X.h.length:=dG hm g4;refine ih (c.setIfInBounds j true) ((j,xi E d.toList o S)::acc) {t:=ò X.t o.dst v,h:=X.h} _ ν' w' (by simpa using R) (fun j' i h1 h2=>?_) ?_ ?_ (fun x s J=>?_) hm' ?_ fun ν'' S'' a'' w'' q1 q2 q3 q4 q5=>hQ ν'' S'' a'' w'' q1 ((g3.mono hm).trans q2 (du _)) q3 (fun i hi hdi=>q4 i hi ?_) q5
   ·by_cases hjj:j=j'
    ·subst hjj;exact getD_set_true (hbit i h2)
    ·rw[getD_set_ne false hjj] at h1;exact getD_set_true (hcl j' i h1 h2)
   ·rw[q];rw[f1] at A;simp only[dw,dz] at A ⊢;omega
   ·rw[g6];exact H.put g3 g2 o.dst g1
   ·rw[q] at s;obtain⟨h1,h2⟩:=z x (V x s) J;refine⟨by simp only; omega,g5 _ h1 ?_ h2⟩
    by_cases U:Ā E.clone o.op=true
    ·exact .inl (hne x (V x s) (hnj x s) J U)
    ·exact .inr (by simpa using U)
   ·rw[q];exact g7
   ·refine g5 i (by omega) ?_ hdi
    by_cases U:Ā E.clone o.op=true
    ·left;obtain⟨k,_,_,W,_⟩:=qp hn;simp only at W;show i≠n;omega
    ·exact .inr (by simpa using U)
def iZ {E:Env ρ} (hmix:E.P.follows .mixedOrders=true) (L:Nat) (call:rT Nat->Bool->Nat->rT AV->rT Blk->(AV->rT Blk->rF ρ)->rF ρ) (C:jM E L call):qB E L call:=by
 intro fid rid path b S a K r m ν w z e H A;unfold MH at e
 split at e<;>try (cases e; done)
 rename_i s;simp only[fw,Bool.or_eq_false_iff,ft] at s;apply wpIn_region_any hmix;have c:=fun id=>PH S.h (ο E.clone b.toList) id;have U:Sim ν {t:=S.t,h:=S.h++List.replicate (ο E.clone b.toList) .dead} a {w with drawn:=w.drawn+1}:=H.same c rfl rfl rfl rfl;have v:Ev m ν S.h w ν (S.h++List.replicate (ο E.clone b.toList) .dead) {w with drawn:=w.drawn+1}:=Ev.same (w:=w) (w':={w with drawn:=w.drawn+1}) c rfl rfl rfl rfl m
 have d:((oh E.clone b.toList 0 S.h.length).filter fun x=>!(Array.replicate b.size false).getD x.1 true)=oh E.clone b.toList 0 S.h.length:=by
  rw[f6];intro x n;obtain⟨k,h1,h2,_⟩:=qp n
  have q:k<b.size:=by
   have:=(dC.1 h1).1;simpa using this
  have:x.1=k:=by omega
  simp[this,q]
 have l:∀(os:rT Oper) (i nid:Nat),(oh E.clone os i nid).length=os.length:=by
  intro os
  induction os with
  |nil=>intros; rfl
  |cons o os y=>intro i nid; simp[oh,y]
 refine alz (fid:=fid) (base:=S.h.length) (K:=K .normal) (r:=r) C z s.2 s.1 A b.size _ [] {t:=S.t,h:=S.h++List.replicate (ο E.clone b.toList) .dead} a ν _ (by simp) (fun j i h1 _=>?_) ?_ U (fun x n u=>?_) ?_ ?_ fun ν' T V w' R O N J I=>⟨ν',T,R,v.trans O (du _),N,fun j B hd=>J j B (by simp only[c]; exact hd),I⟩
 ·exfalso;rcases dV j b.size with h|h
  ·simp[h] at h1
  ·simp[h] at h1
 ·rw[d,l]; simp
 ·rw[d] at n;obtain⟨k,_,_,G,F⟩:=qp n;have:=F u;refine⟨by simp; omega,?_⟩;simp only[c];exact GG _ _ G
 ·simp; omega
 ·rw[d,<-Yi];exact e
end
end Go.Am
end

noncomputable section
namespace Go.Am
variable [Globs]
structure amI where
 clo:Nat
 ct:Ty
 et:Ty
 F:Val ct->rF (rT (Val et))
def Ζ (it:amI) (m:Val it.ct):rT Blk:=[.acc it.et [],.cells (flat it.ct m)]
def Aw:rT AV:=[.yld,.box 1 0]
structure jZ (P:Program) (it:amI):Prop where
 agg:it.et.isAgg=false
 ok:∀(g:Ghost) (_:it.et=g.T) (m:Val it.ct) (xs:rT (Val it.et)),it.F m=some xs->@YldP _ g P ⟨it.et,xs,false⟩->∀(ν:Nat->Value) (w:World) (vals:rT Value),g.B<=w.heap.size->@HR _ g ν (Ζ it m) w->ÿ (@VR _ g ν (Ζ it m) w) Aw vals ->
  (∃fn c,P.funcs[it.clo]?=some fn/\fn.body=some c)/\CallsIn Fence.wide 0 P it.clo vals.toArray w fun e w'=>∃ν' h' u,e=.returned u/\@HR _ g ν' h' w'/\Ev 2 ν (Ζ it m) w ν' h' w'/\lkB h' 0=.acc it.et xs/\∃cs,lkB h' 1=.cells cs/\Ü it.ct cs=some m
def jZ.mono {P:Program} {clo:Nat} {ct et:Ty} {F b:Val ct->rF (rT (Val et))} (h:jZ P ⟨clo,ct,et,F⟩) (c:∀m xs,b m=some xs->F m=some xs):jZ P ⟨clo,ct,et,b⟩ :=
 ⟨h.agg,fun g d m xs e=>h.ok g d m xs (c m xs e)⟩
def nr0 (id:Nat):AV->Bool
 |.box j _=>!Nat.beq j id
 |_=>true
def nr1 (id:Nat):AV->Bool
 |.fn _ a b=>a.all (nr0 id)&&b.all (nr0 id)
 |v=>nr0 id v
def nr2 (id:Nat):AV->Bool
 |.agg cs=>cs.all (nr1 id)
 |v=>nr1 id v
def nr3 (id:Nat):AV->Bool
 |.tup cs=>cs.all (nr2 id)
 |v=>nr2 id v
def nrB (id:Nat):Blk->Bool
 |.cells cs=>cs.all (nr1 id)
 |.fns es=>es.all fun e=>nr1 id e.2
 |_=>true
def clr (id:Nat) (v:AV):AV:=match nr3 id v with
 |true=>v
 |false=>.any
def ÿ.memR {α β:Type} {R d:α->β->Prop}:∀{l:rT α} {m:rT β},(∀a∈l,∀b,R a b->d a b)->ÿ R l m->ÿ d l m
 |[],[],_,_=>trivial
 |a::l,b::m,c,h=>⟨c a (by simp) b h.1,ÿ.memR (fun a ha=>c a (by simp[ha])) h.2⟩
 |[],_::_,_,h=>h.elim
 |_::_,[],_,h=>h.elim
def aic {f:Blk->Bool} (h0:f .dead=true):∀(l:rT Blk),l.all f=true->∀i,f (lkB l i)=true
 |[],_,i=>by cases i<;>exact h0
 |x::l,h,0=>by simp only[fX,dt] at h; exact h.1
 |x::l,h,i+1=>by simp only[fX,dt] at h; exact aic h0 l h.2 i
def aia {f:AV->Bool} (h0:f .any=true):∀(l:rT AV),l.all f=true->∀i,f (lk l i)=true
 |[],_,i=>by cases i<;>exact h0
 |x::l,h,0=>by simp only[fX,dt] at h; exact h.1
 |x::l,h,i+1=>by simp only[fX,dt] at h; exact aia h0 l h.2 i
def ah9 {f:AV->AV} (h0:f .any=.any):∀(l:rT AV) (i:Nat),lk (l.map f) i=f (lk l i)
 |[],i=>by cases i<;>exact h0.symm
 |x::l,0=>rfl
 |x::l,i+1=>ah9 h0 l i
section
variable {g:Ghost} {D:rT Deferred} {Q:rF Nat} {M:Nat} {ν:Nat->Value} {h:rT Blk} {w:World} {id b0:Nat} {cs:rT AV}
abbrev wP (g:Ghost) (b0:Nat):Nat->Prop:=fun k=>g.G k\/k=b0
def aiQ (i:lkB h id=.cells cs) (d:ν id=.pointer (some ⟨b0,0,none⟩)) (k:Nat) (b:@Av _ (g.re (wP g b0) D Q M) ν (î h id .dead) k):@Av _ g ν h k:=by
 rcases b with⟨j,c,e⟩|b
 ·refine .inl ⟨j,?_,e⟩;rw[sh] at c
  split at c
  ·cases c
  ·exact c
 ·rcases b with b|rfl
  ·exact .inr b
  ·exact .inl ⟨id,by rw[i]; rfl,by rw[d]; rfl⟩
def WE (z:lkB h id=.cells cs) (u:ν id=.pointer (some ⟨b0,0,none⟩)) {a:AV} {v:Value} (A:nr0 id a=true) (l:@VR0 _ g ν h w a v):@VR0 _ (g.re (wP g b0) D Q M) ν (î h id .dead) w a v:=by
 have sub:=aiQ (D:=D) (Q:=Q) (M:=M) (g:=g) z u
 have m:∀{j:Nat} {B:Blk},lkB h j=B->(∀cs,B≠.cells cs)->lkB (î h id .dead) j=B:=fun {j B} y C=>by
  rw[Ð _ (fun e=>by rw[e,z] at y; exact C _ y.symm)]; exact y
 cases a with
 |slc t xs=>exact CR.mono sub l
 |mp k t es=>exact CR.mono sub l
 |eptr t x off =>
  obtain⟨b,o,us,h1,h2,d,F,E⟩:=l;exact⟨b,o,us,h1,fun q=>h2 (sub b q),d,CR.mono sub F,E⟩
 |own j q=>obtain⟨h1,t,g',fz,xs,h2,d⟩:=l; exact⟨h1,t,g',fz,xs,m h2 (by simp),d⟩
 |sub j q lo n=>obtain⟨h1,t,g',fz,xs,h2,d⟩:=l; exact⟨h1,t,g',fz,xs,m h2 (by simp),d⟩
 |omp j=>obtain⟨h1,k,t,es,h2,d⟩:=l; exact⟨h1,k,t,es,m h2 (by simp),d⟩
 |optr j q i off=>obtain⟨h1,t,g',fz,xs,h2,d⟩:=l; exact⟨h1,t,g',fz,xs,m h2 (by simp),d⟩
 |ofn j=>obtain⟨h1,es,h2,d⟩:=l; exact⟨h1,es,m h2 (by simp),d⟩
 |oit j=>obtain⟨h1,s,q,h2,d⟩:=l; exact⟨h1,s,q,m h2 (by simp),d⟩
 |box j off =>
  obtain⟨c,b,h1,h2,d⟩:=l;refine⟨c,b,?_,h2,d⟩;rw[Ð _ (fun e=>by simp[nr0,e] at A)]; exact h1
 |_=>exact l
def Mg (j:lkB h id=.cells cs) (b:ν id=.pointer (some ⟨b0,0,none⟩)) {a:AV} {v:Value} (d:nr1 id a=true) (i:@VR1 _ g ν h w a v):@VR1 _ (g.re (wP g b0) D Q M) ν (î h id .dead) w a v:=by
 cases e:a.isFn with
 |true =>
  cases a<;>try cases e
  obtain⟨fs,c,h1,h2,k⟩:=i;simp only[nr1,dt,dM] at d;exact⟨fs,c,h1,h2.memR fun a ha _=>WE j b (d.1 a ha),k.memR fun a ha _=>WE j b (d.2 a ha)⟩
 |false =>
  rw[@wU _ (g.re _ _ _ _) _ _ _ _ _ e];rw[@wU _ g _ _ _ _ _ e] at i;refine WE j b ?_ i
  cases a<;>first|exact d|cases e
def adT (i:lkB h id=.cells cs) (b:ν id=.pointer (some ⟨b0,0,none⟩)) {a:AV} {v:Value} (e:nr2 id a=true) (d:@VR2 _ g ν h w a v):@VR2 _ (g.re (wP g b0) D Q M) ν (î h id .dead) w a v:=by
 cases c:a.isAgg with
 |true =>
  cases a<;>try cases c
  obtain⟨vs,h1,h2⟩:=d;simp only[nr2,dM] at e;exact⟨vs,h1,h2.memR fun a ha _ j=>⟨Mg i b (e a ha) j.1,j.2⟩⟩
 |false =>
  rw[@zU _ (g.re _ _ _ _) _ _ _ _ _ c];rw[@zU _ g _ _ _ _ _ c] at d;refine Mg i b ?_ d
  cases a<;>first|exact e|cases c
def aiR (i:lkB h id=.cells cs) (b:ν id=.pointer (some ⟨b0,0,none⟩)) {a:AV} {v:Value} (e:nr3 id a=true) (d:@VR _ g ν h w a v):@VR _ (g.re (wP g b0) D Q M) ν (î h id .dead) w a v:=by
 cases c:a.isTup with
 |true =>
  cases a<;>try cases c
  obtain⟨vs,h1,h2⟩:=d;simp only[nr3,dM] at e;exact⟨vs,h1,h2.memR fun a ha _=>adT i b (e a ha)⟩
 |false =>
  rw[@vZ _ (g.re _ _ _ _) _ _ _ _ _ c];rw[@vZ _ g _ _ _ _ _ c] at d;refine adT i b ?_ d
  cases a<;>first|exact e|cases c
def aiS (G:lkB h id=.cells cs) (B:ν id=.pointer (some ⟨b0,0,none⟩)) (O:(î h id .dead).all (nrB id)=true) (H:@HR _ g ν h w):@HR _ (g.re (wP g b0) D Q M) ν (î h id .dead) w:=by
 have sub:=aiQ (D:=D) (Q:=Q) (M:=M) (g:=g) G B;have K:id<h.length:=Ν G (by simp)
 have N:∀{j},(lkB (î h id .dead) j).live=true->j≠id/\(lkB h j).live=true:=fun {j} y=>by
  rw[sh] at y
  split at y
  ·cases y
  ·rename_i R;exact⟨fun e=>R ⟨e,K⟩,y⟩
 have S:∃c e,w.heap[b0]?=some (.cells c e (0,0)):=by
  have:=@HR.blk _ g _ _ _ H id;rw[G] at this;obtain⟨b,c,e,F,I,_⟩:=this;rw[B] at F; cases F;exact⟨c,e,I⟩
 refine @HR.mk _ (g.re (wP g b0) D Q M) _ _ _ (fun j=>?_) (fun i j b hi y=>@HR.inj _ g _ _ _ H i j b (N hi).2 (N y).2) (fun k E=>?_) (fun j k y hb E=>?_) (@HR.glob _ g _ _ _ H) (fun b hb ⟨j,y,W⟩=>@HR.globL _ g _ _ _ H b hb ⟨j,(N y).2,W⟩)
 ·by_cases y:j=id
  ·rw[y,ã _ K]; trivial
  ·have l:=aic rfl _ O j;rw[Ð _ y] at l ⊢;have A:=@HR.blk _ g _ _ _ H j
   cases u:lkB h j with
   |dead=>trivial
   |cells c =>
    rw[u] at A l;obtain⟨b,c,e,h1,h2,C⟩:=A;simp only[nrB,dM] at l;exact⟨b,c,e,h1,h2,C.memR fun a ha _ T=>⟨Mg G B (l a ha) T.1,T.2⟩⟩
   |row t g' fz xs =>
    rw[u] at A
    cases fz with
    |true=>exact CR.mono sub A
    |false =>
     obtain⟨base,cap,h1,h2,C⟩:=A;refine⟨base,cap,h1,h2,C.imp (fun z=>z) fun⟨b,off,c,e,L,h5,Z,Y⟩=>⟨b,off,c,e,L,h5,Z,fun i x J=>?_⟩⟩;obtain⟨us,F,I⟩:=Y i x J;exact⟨us,CR.mono sub F,I⟩
   |map k v es =>
    rw[u] at A;obtain⟨b,d,n,h1,h2,C,L⟩:=A;refine⟨b,d,n,h1,h2,C,fun i x J=>?_⟩;obtain⟨m,us,F,I,V,U⟩:=L i x J;exact⟨m,us,F,CR.mono sub I,CR.mono sub V,U⟩
   |fns es =>
    rw[u] at A l;obtain⟨b,d,n,h1,h2,C⟩:=A;simp only[nrB,dM] at l;exact⟨b,d,n,h1,h2,C.memR fun e X _ q=>⟨q.1,q.2.1,Mg G B (l e X) q.2.2⟩⟩
   |iter s q=>rw[u] at A; exact A
   |acc t xs =>
    rw[u] at A;obtain⟨us,h1,h2,C,L⟩:=A;exact⟨us,h1,h2,C,g.st _ _ _ _ _ _ L ⟨rfl,rfl,rfl,du _,fun b _ R J=>R (sub b J),fun b o hb _ _=>hb,fun b o hb _ _=>hb,fun _ _ _=>rfl⟩⟩
 ·rcases E with E|rfl
  ·exact @HR.ghlt _ g _ _ _ H k E
  ·obtain⟨c,e,q⟩:=S;exact å q
 ·obtain⟨h1,h2⟩:=N y;rcases E with E|rfl
  ·exact @HR.ghne _ g _ _ _ H j k h2 hb E
  ·exact h1 (@HR.inj _ g _ _ _ H j id k h2 (by rw[G]; rfl) hb (by rw[B]; rfl))
end
section
variable {g:Ghost} {G1:Nat->Prop} {D D1:rT Deferred} {Q Q1:rF Nat} {M M1:Nat} {ν:Nat->Value} {h:rT Blk} {w:World} {id b0:Nat} {cs:rT AV}
def ajG {P:Blk->Prop} (hd:lkB h id=.dead) {j:Nat} {B:Blk} (b:lkB h j=B) (c:B≠.dead) (C:Blk) (V:Value):lkB (î h id C) j=B/\ý ν id V j=ν j:=by
 letI:Ghost:=Gh fun _=>False
 have:j≠id:=fun e=>by rw[e,hd] at b; exact c b.symm
 exact⟨by rw[Ð _ this]; exact b,Ċ _ _ this⟩
def ajH (m:id<h.length) (n:∀b,g.G b->G1 b) (i:G1 b0) (k:Nat) (d:@Av _ (g.re g.G D Q M) (ý ν id (.pointer (some ⟨b0,0,none⟩))) (î h id (.cells cs)) k):@Av _ (g.re G1 D1 Q1 M1) ν h k:=by
 rcases d with⟨j,l,c⟩|d
 ·by_cases e:j=id
  ·rw[e,Õ] at c; cases c; exact .inr i
  ·rw[Ð _ e] at l; rw[Ċ _ _ e] at c; exact .inl ⟨j,l,c⟩
 ·exact .inr (n k d)
def WT (hd:lkB h id=.dead) (y:id<h.length) (C:∀b,g.G b->G1 b) (z:G1 b0) {a:AV} {v:Value} (e:@VR0 _ (g.re G1 D1 Q1 M1) ν h w a v):@VR0 _ (g.re g.G D Q M) (ý ν id (.pointer (some ⟨b0,0,none⟩))) (î h id (.cells cs)) w a v:=by
 have sub:=ajH (D:=D) (Q:=Q) (M:=M) (D1:=D1) (Q1:=Q1) (M1:=M1) (ν:=ν) (cs:=cs) y C z;have m:∀{j:Nat} {B:Blk},lkB h j=B->B≠.dead->lkB (î h id (.cells cs)) j=B:=fun {j B} u A=>(ajG (P:=fun _=>True) (ν:=ν) hd u A _ .nilFunc).1;have l:∀{j:Nat} {B:Blk},lkB h j=B->B≠.dead->ý ν id (.pointer (some ⟨b0,0,none⟩)) j=ν j:=fun {j B} u A=>(ajG (P:=fun _=>True) (ν:=ν) hd u A (.cells cs) _).2
 cases a with
 |slc t xs=>exact CR.mono sub e
 |mp k t es=>exact CR.mono sub e
 |eptr t x off =>
  obtain⟨b,o,us,h1,h2,d,F,E⟩:=e;exact⟨b,o,us,h1,fun q=>h2 (sub b q),d,CR.mono sub F,E⟩
 |own j q=>obtain⟨h1,t,g',fz,xs,h2,d⟩:=e; exact⟨h1,t,g',fz,xs,m h2 (by simp),by rw[l h2 (by simp)]; exact d⟩
 |sub j q lo n=>obtain⟨h1,t,g',fz,xs,h2,d⟩:=e; exact⟨h1,t,g',fz,xs,m h2 (by simp),by rw[l h2 (by simp)]; exact d⟩
 |omp j=>obtain⟨h1,k,t,es,h2,d⟩:=e; exact⟨h1,k,t,es,m h2 (by simp),by rw[l h2 (by simp)]; exact d⟩
 |optr j q i off=>obtain⟨h1,t,g',fz,xs,h2,d⟩:=e; exact⟨h1,t,g',fz,xs,m h2 (by simp),by rw[l h2 (by simp)]; exact d⟩
 |ofn j=>obtain⟨h1,es,h2,d⟩:=e; exact⟨h1,es,m h2 (by simp),d.trans (l h2 (by simp)).symm⟩
 |oit j=>obtain⟨h1,s,q,h2,d⟩:=e; exact⟨h1,s,q,m h2 (by simp),d.trans (l h2 (by simp)).symm⟩
 |box j off=>obtain⟨c,b,h1,h2,d⟩:=e; exact⟨c,b,m h1 (by simp),by rw[l h1 (by simp)]; exact h2,d⟩
 |_=>exact e
def Mm (hd:lkB h id=.dead) (d:id<h.length) (k:∀b,g.G b->G1 b) (e:G1 b0) {a:AV} {v:Value} (i:@VR1 _ (g.re G1 D1 Q1 M1) ν h w a v):@VR1 _ (g.re g.G D Q M) (ý ν id (.pointer (some ⟨b0,0,none⟩))) (î h id (.cells cs)) w a v:=by
 cases j:a.isFn with
 |true =>
  cases a<;>try cases j
  obtain⟨fs,c,h1,h2,l⟩:=i;exact⟨fs,c,h1,h2.mono fun _ _=>WT hd d k e,l.mono fun _ _=>WT hd d k e⟩
 |false =>
  rw[@wU _ (g.re _ _ _ _) _ _ _ _ _ j];rw[@wU _ (g.re G1 _ _ _) _ _ _ _ _ j] at i;exact WT hd d k e i
def ad8 (hd:lkB h id=.dead) (c:id<h.length) (k:∀b,g.G b->G1 b) (d:G1 b0) {a:AV} {v:Value} (e:@VR2 _ (g.re G1 D1 Q1 M1) ν h w a v):@VR2 _ (g.re g.G D Q M) (ý ν id (.pointer (some ⟨b0,0,none⟩))) (î h id (.cells cs)) w a v:=by
 cases i:a.isAgg with
 |true =>
  cases a<;>try cases i
  obtain⟨vs,h1,h2⟩:=e;exact⟨vs,h1,h2.mono fun _ _ j=>⟨Mm hd c k d j.1,j.2⟩⟩
 |false =>
  rw[@zU _ (g.re _ _ _ _) _ _ _ _ _ i];rw[@zU _ (g.re G1 _ _ _) _ _ _ _ _ i] at e;exact Mm hd c k d e
def ajI (hd:lkB h id=.dead) (c:id<h.length) (j:∀b,g.G b->G1 b) (d:G1 b0) {a:AV} {v:Value} (e:@VR _ (g.re G1 D1 Q1 M1) ν h w a v):@VR _ (g.re g.G D Q M) (ý ν id (.pointer (some ⟨b0,0,none⟩))) (î h id (.cells cs)) w a v:=by
 cases i:a.isTup with
 |true =>
  cases a<;>try cases i
  obtain⟨vs,h1,h2⟩:=e;exact⟨vs,h1,h2.mono fun _ _=>ad8 hd c j d⟩
 |false =>
  rw[@vZ _ (g.re _ _ _ _) _ _ _ _ _ i];rw[@vZ _ (g.re G1 _ _ _) _ _ _ _ _ i] at e;exact ad8 hd c j d e
def ajJ (hd:lkB h id=.dead) (I:id<h.length) (S:∀b,g.G b->G1 b) (J:G1 b0) (Y:¬g.G b0) (X:¬b0<Globs.n) {c:Array Value} {e:TypeId} (hw:w.heap[b0]?=some (.cells c e (0,0)))
 (hc:ÿ (@VRc _ (g.re g.G D Q M) (ý ν id (.pointer (some ⟨b0,0,none⟩))) (î h id (.cells cs)) w) cs c.toList) (H:@HR _ (g.re G1 D1 Q1 M1) ν h w):@HR _ (g.re g.G D Q M) (ý ν id (.pointer (some ⟨b0,0,none⟩))) (î h id (.cells cs)) w:=by
 have sub:=ajH (D:=D) (Q:=Q) (M:=M) (D1:=D1) (Q1:=Q1) (M1:=M1) (ν:=ν) (cs:=cs) I S J
 have W:∀{j b},(lkB (î h id (.cells cs)) j).live=true->Ĭ (ý ν id (.pointer (some ⟨b0,0,none⟩)) j) b->(j=id/\b=b0)\/(j≠id/\(lkB h j).live=true/\Ĭ (ν j) b):=fun {j b} C L=>by
  by_cases q:j=id
  ·rw[q,Õ] at L; cases L; exact .inl ⟨q,rfl⟩
  ·rw[Ð _ q] at C; rw[Ċ _ _ q] at L; exact .inr ⟨q,C,L⟩
 refine @HR.mk _ (g.re g.G D Q M) _ _ _ (fun j=>?_) (fun i j b hi C hbi Z=>?_) (fun k R=>@HR.ghlt _ (g.re G1 D1 Q1 M1) _ _ _ H k (S k R)) (fun j k C hb R=>?_) (@HR.glob _ (g.re G1 D1 Q1 M1) _ _ _ H) (fun b hb ⟨j,C,L⟩=>by
  rcases W C L with⟨_,q⟩|⟨_,u,E⟩
  ·rw[q] at hb; exact X hb
  ·exact @HR.globL _ (g.re G1 D1 Q1 M1) _ _ _ H b hb ⟨j,u,E⟩)
 ·by_cases C:j=id
  ·rw[C,ã _ I];exact⟨b0,c,e,Õ _ _ _,hw,hc⟩
  ·rw[Ð _ C];have B:=@HR.blk _ (g.re G1 D1 Q1 M1) _ _ _ H j;have l:=Ċ ν (.pointer (some ⟨b0,0,none⟩)) C
   cases A:lkB h j with
   |dead=>trivial
   |cells c2 =>
    rw[A] at B;obtain⟨b,c3,e3,h1,h2,K⟩:=B;exact⟨b,c3,e3,l.trans h1,h2,K.mono fun _ _ hq=>⟨Mm hd I S J hq.1,hq.2⟩⟩
   |row t g' fz xs =>
    rw[A] at B
    cases fz with
    |true =>
     show CR w _ _ _ [ý ν id _ j];rw[l]; exact CR.mono sub B
    |false =>
     obtain⟨base,cap,h1,h2,K⟩:=B;refine⟨base,cap,l.trans h1,h2,K.imp (fun z=>z) fun⟨b,off,c,e,T,h5,h6,h7⟩=>⟨b,off,c,e,T,h5,h6,fun i x N=>?_⟩⟩;obtain⟨us,F,u⟩:=h7 i x N;exact⟨us,CR.mono sub F,u⟩
   |map k v es =>
    rw[A] at B;obtain⟨b,d,y,h1,h2,K,T⟩:=B;refine⟨b,d,y,l.trans h1,h2,K,fun i x N=>?_⟩;obtain⟨m,us,F,u,E,V⟩:=T i x N;exact⟨m,us,F,CR.mono sub u,CR.mono sub E,V⟩
   |fns es =>
    rw[A] at B;obtain⟨b,d,y,h1,h2,K⟩:=B;exact⟨b,d,y,l.trans h1,h2,K.mono fun _ _ q=>⟨q.1,q.2.1,Mm hd I S J q.2.2⟩⟩
   |iter s q =>
    rw[A] at B;obtain⟨b,h1,h2⟩:=B;exact⟨b,l.trans h1,h2⟩
   |acc t xs =>
    rw[A] at B;obtain⟨us,h1,h2,K,T⟩:=B;refine⟨us,l.trans h1,by rw[l]; exact h2,K,?_⟩;rw[l];exact g.st _ _ _ _ _ _ T ⟨rfl,rfl,rfl,du _,fun b _ hn N=>hn (sub b N),fun b o hb _ _=>hb,fun b o hb _ _=>hb,fun _ _ _=>rfl⟩
 ·have O:∀{j b},(lkB h j).live=true->Ĭ (ν j) b->b≠b0:=fun {j b} F u E=>@HR.ghne _ (g.re G1 D1 Q1 M1) _ _ _ H j b F u (by rw[E]; exact J)
  rcases W hi hbi with⟨F,u⟩|⟨F,u,E⟩<;>rcases W C Z with⟨V,U⟩|⟨V,U,q6⟩
  ·rw[F,V]
  ·exact absurd u (O U q6)
  ·exact absurd U (O u E)
  ·exact @HR.inj _ (g.re G1 D1 Q1 M1) _ _ _ H i j b u U E q6
 ·rcases W C hb with⟨F,u⟩|⟨F,u,E⟩
  ·rw[u] at R; exact Y R
  ·exact @HR.ghne _ (g.re G1 D1 Q1 M1) _ _ _ H j k u E (S k R)
end
def st0 (pin:Nat):AV->Bool
 |.any=>true
 |.und=>true
 |.bool _=>true
 |.int _ _=>true
 |.str _=>true
 |.nils=>true
 |.slc _ _=>true
 |.nilm=>true
 |.mp _ _ _=>true
 |.nilp=>true
 |.nilfn=>true
 |.yld=>true
 |.ifc _=>true
 |.box id _=>Nat.blt id pin
 |.ofn id=>Nat.blt id pin
 |_=>false
def st3 (pin:Nat):AV->Bool
 |.fn _ a b=>a.all (st0 pin)&&b.all (st0 pin)
 |a=>st0 pin a
section
variable [Ghost] {ν ν':Nat->Value} {h h':rT Blk} {w w':World} {pin:Nat}
def VR0.stab (e:Ev pin ν h w ν' h' w') {a:AV} {v:Value} (c:st0 pin a=true) (j:VR0 ν h w a v):VR0 ν' h' w' a v:=by
 cases a with
 |box id off =>
  obtain⟨cs,b,l,h1,h2⟩:=j;have d:id<pin:=eE c;have hb:=e.blk id d;rw[l] at hb;obtain⟨⟨o,i⟩,m⟩:=hb;exact⟨o,b,i,by rw[m]; exact h1,h2⟩
 |ofn id =>
  obtain⟨h1,es,l,h2⟩:=j;have d:id<pin:=eE c;have hb:=e.blk id d;rw[l] at hb;obtain⟨⟨n,i⟩,m⟩:=hb;exact⟨h1,n,i,by rw[m]; exact h2⟩
 |slc t xs=>exact CR.keep e.keepA j
 |mp k t es=>exact CR.keep e.keepA j
 |own=>cases c
 |sub=>cases c
 |omp=>cases c
 |optr=>cases c
 |eptr=>cases c
 |fn=>cases c
 |agg=>cases c
 |tup=>cases c
 |oit=>cases c
 |_=>exact j
def VR.stab (e:Ev pin ν h w ν' h' w') {a:AV} {v:Value} (d:st3 pin a=true) (c:VR ν h w a v):VR ν' h' w' a v:=by
 cases a with
 |fn f fa fb =>
  obtain⟨fs,cs,h1,h2,i⟩:=c;simp only[st3,dt,dM] at d;exact⟨fs,cs,h1,h2.memR fun a ha _=>VR0.stab e (d.1 a ha),i.memR fun a ha _=>VR0.stab e (d.2 a ha)⟩
 |agg=>cases d
 |tup=>cases d
 |oit=>cases d
 |any=>trivial
 |und=>exact c
 |bool=>exact c
 |int=>exact c
 |str=>exact c
 |nils=>exact c
 |nilm=>exact c
 |nilp=>exact c
 |nilfn=>exact c
 |yld=>exact c
 |box id off=>exact VR0.stab (a:=.box id off) e d c
 |ofn id=>exact VR0.stab (a:=.ofn id) e d c
 |ifc b=>exact c
 |slc t xs=>exact VR0.stab (a:=.slc t xs) e rfl c
 |mp k t es=>exact VR0.stab (a:=.mp k t es) e rfl c
 |own=>cases d
 |sub=>cases d
 |omp=>cases d
 |optr=>cases d
 |eptr=>cases d
def anQ {t:Ty} (c:t.isAgg=false) {x:Val t} {u:Value} (b:CR w (Av ν h) t x [u]):VR ν h w (enc t x) u:=by
 have d:flat t x=[enc t x]:=by cases t<;>first|rfl|cases c
 have:=lX (ν:=ν) (h:=h) b;rw[d] at this;exact VR1.up this.1.1
end
def ô (P:Program) (f:Nat):rF Code :=
 match P.funcs[f]? with
 |some fn=>fn.body
 |none=>none
structure HD (ρ:Type) where
 path:rT Nat
 fid:Nat
 bid:Nat
 pin:Nat
 cs:rT Ty
 vs:rT Ty
 head:Tpl
 it:amI
 bF:Val (tyL cs)->Val (tyL vs)->Val it.et->(Val (tyL vs)->rF ρ)->rF ρ
section
variable {ρ:Type}
def Br (E:Env ρ) (call:rT Nat->Bool->Nat->rT AV->rT Blk->(AV->rT Blk->rF ρ)->rF ρ) (fid:Nat) (path:rT Nat) (pin bid:Nat) (it:LI) (S:St) (y:AV) (c:St->rF ρ):rF ρ :=
 match it with
 |.rf _ ps a b=>match ps.toList with
  |[p]=>goC E call fid path pin bid a {t:=upd S.t p y,h:=S.h} fun e S=>match e with
   |.normal=>goC E call fid path pin bid b S fun e S=>match e with
    |.normal=>c S
    |_=>none
   |_=>none
  |_=>none
 |_=>none
def HD.back (x:HD ρ) (b:Val (tyL x.cs)->Val (tyL x.vs)->rF ρ) (S:St):rF ρ:=match tq x.head x.pin x.cs x.vs S with
 |some (p,v)=>b p v
 |none=>none
structure HD.Ok (E:Env ρ) (x:HD ρ):Prop where
 one:(((ô E.P x.fid).elim [] (Ø 0)).filter fun y=>Nat.beq y.1 x.bid).length=1
 it:jZ E.P x.it
 tm:∀p v v',(à x.head x.cs x.vs p v').t=(à x.head x.cs x.vs p v).t
 stab:∀p v,(à x.head x.cs x.vs p v).t.all (st3 x.pin)=true
 law:∀p v y (kn:Val (tyL x.cs)->Val (tyL x.vs)->rF ρ),Br E (Ğ E (10-x.path.length / 2)) x.fid x.path x.pin x.bid (iw (ô E.P x.fid) x.bid) (à x.head x.cs x.vs p v) (enc x.it.et y) (x.back kn)=x.bF p v y (kn p)
def rngK (x:HD ρ) (m:Nat) (g:AV) (S:St) (K:Exit->St->rF ρ):rF ρ :=
 match Nat.ble m x.pin with
 |true=>match g with
  |.fn (.func c) [] [.box id 0]=>match Nat.beq c x.it.clo with
   |true=>match lkB S.h id with
    |.cells cs=>match cs.all (fun a=>!Ee a)&&(î S.h id .dead).all (nrB id) with
     |true=>match Ü x.it.ct cs with
      |some d=>match tq x.head x.pin x.cs x.vs {t:=S.t.map (clr id),h:=î S.h id .dead} with
       |some (p,v)=>Â (x.it.F d) fun xs=>GZ (x.bF p) xs v fun v=>K .normal (bif Nat.blt id x.pin then {t:=(à x.head x.cs x.vs p v).t,h:=î (à x.head x.cs x.vs p v).h id (.cells (flat x.it.ct d))} else à x.head x.cs x.vs p v)
       |none=>none
      |none=>none
     |false=>none
    |_=>none
   |false=>none
  |_=>none
 |false=>none
structure RJ (g:Ghost) (x:HD ρ) (ν:Nat->Value) (h:rT Blk) (p:Val (tyL x.cs)) (xs:rT (Val x.it.et)) (Kf:Val (tyL x.vs)->rF ρ) (r:ρ) (ν1:Nat->Value) (h1:rT Blk) (a:Act) (t1:rT AV) (W1:World) (O X:Nat->Prop) (pre:rT (Val x.it.et)) (W:World):Prop where
 os:W.os=W1.os
 tape:W.tape=W1.tape
 output:W.output=W1.output
 size:W1.heap.size<=W.heap.size
 nd:∀(k:Nat) (o:Obj),W1.heap[k]?=some o->LX o=false->W.heap[k]?=some o
 ex:∃(ν':Nat->Value) (v':Val (tyL x.vs)) (suf:rT (Val x.it.et)),xs=pre++suf/\GZ (x.bF p) suf v' Kf=some r/\(∀k,O k↔qD ν' (à x.head x.cs x.vs p v').h k) /\
  @HR _ (g.re (fun k=>X k/\¬O k/\k<W.heap.size) [] none 0) ν' (à x.head x.cs x.vs p v').h W /\
  (∀i,@VR _ (g.re (fun k=>X k/\¬O k/\k<W.heap.size) [] none 0) ν' (à x.head x.cs x.vs p v').h W (lk t1 i) (a.tmps.getD i undef)) /\
  (∀b,b<W1.heap.size->¬qD ν h b->¬qD ν' (à x.head x.cs x.vs p v').h b) /\
  (∀id,id<x.pin->(lkB h1 id).next ν1 ν' id (lkB (à x.head x.cs x.vs p v').h id))/\Dd x.pin h1 (à x.head x.cs x.vs p v').h
section
variable {g:Ghost} {x:HD ρ} {ν:Nat->Value} {h:rT Blk} {p:Val (tyL x.cs)} {xs:rT (Val x.it.et)} {Kf:Val (tyL x.vs)->rF ρ} {r:ρ} {ν1:Nat->Value} {h1:rT Blk} {a:Act} {t1:rT AV} {W1:World}
def RJ.st (s:g.B<=W1.heap.size) {O X v:Nat->Prop} {d:rT (Val x.it.et)} {W l:World} (H:RJ g x ν h p xs Kf r ν1 h1 a t1 W1 O X d W) (S:StepJ W1.heap.size O X W v l):RJ g x ν h p xs Kf r ν1 h1 a t1 W1 O v d l:=by
 obtain⟨V,U,T,R,N,ν',e,m,K,J,n,I,G,F,E,C⟩:=H;have av:∀b,@Av _ (g.re (fun k=>X k/\¬O k/\k<W.heap.size) [] none 0) ν' (à x.head x.cs x.vs p e).h b↔qD ν' (à x.head x.cs x.vs p e).h b\/(X b/\¬O b/\b<W.heap.size):=fun b=>Iff.rfl
 have A:iL (g.re (fun k=>X k/\¬O k/\k<W.heap.size) [] none 0) ν' (à x.head x.cs x.vs p e).h W (fun k=>v k/\¬O k/\k<l.heap.size) l:=by
  refine⟨S.os,S.tape,S.output,S.size,fun b hb y j=>?_,fun b o hb c j=>?_,fun b o hb c q=>S.nd b o hb c (dD q s),S.gl⟩
  ·rw[av] at y;exact S.av b hb (fun u=>y (.inr ⟨u,j.2.1,hb⟩)) j.1
  ·refine S.dat b o hb c fun u=>?_;rcases Classical.em (O b) with h'|h'
   ·exact h'
   ·exact(n b).2 (j ((av b).2 (.inr ⟨u,h',å hb⟩)))
 refine⟨S.os.trans V,S.tape.trans U,S.output.trans T,dG R S.size,fun k o z c=>S.nd k o (N k o z c) c (å z),ν',e,m,K,J,n,?_,fun i=>?_,F,E,C⟩
 ·exact HR.step (g:=g.re (fun k=>X k/\¬O k/\k<W.heap.size) [] none 0) (D:=[]) (Q:=none) (M:=0) A (fun b hb=>hb.2.2) (fun b L hb=>hb.2.1 ((n b).2 L)) I
 ·exact VR.step (g:=g.re (fun k=>X k/\¬O k/\k<W.heap.size) [] none 0) (D:=[]) (Q:=none) (M:=0) A (G i)
def atP {x:HD ρ} (p:Val (tyL x.cs)) (k:Val (tyL x.vs)->rF ρ) (b:Val (tyL x.cs)) (v:Val (tyL x.vs)):rF ρ:=match eqV (tyL x.cs) b p with
 |true=>k v
 |false=>none
def al4 {x:HD ρ} (p:Val (tyL x.cs)) (k:Val (tyL x.vs)->rF ρ):atP p k p=k:=by
 funext v; unfold atP; rw[vP]
def al3 {x:HD ρ} {p b:Val (tyL x.cs)} {k:Val (tyL x.vs)->rF ρ} {v:Val (tyL x.vs)} {r:ρ} (h:atP p k b v=some r):b=p/\k v=some r:=by
 unfold atP at h
 split at h
 ·exact⟨Kb _ _ _ ‹_›,h⟩
 ·cases h
def aiw (ν:Nat->Value) (h:rT Blk):∃us:Array Value,∀b,Ĭ (.agg us) b↔qD ν h b:=by
 have s:∀n,∃l:rT Value,∀b,(∃u∈l,aai u=some b)↔∃id,id<n/\(lkB h id).live=true/\Ĭ (ν id) b:=by
  intro n
  induction n with
  |zero=>exact⟨[],fun b=>⟨fun⟨u,d,_⟩=>(by cases d),fun⟨_,hi,_⟩=>(by omega)⟩⟩
  |succ n z =>
   obtain⟨l,o⟩:=z
   obtain⟨m,y⟩:∃m:rT Value,∀b,(∃u∈m,aai u=some b)↔((lkB h n).live=true/\Ĭ (ν n) b):=by
    cases A:(lkB h n).live with
    |false=>exact⟨[],fun b=>⟨fun⟨u,d,_⟩=>(by cases d),fun⟨q,_⟩=>(by cases q)⟩⟩
    |true =>
     cases B:ν n with
     |agg vs=>exact⟨vs.toList,fun b=>⟨fun q=>⟨rfl,q⟩,fun q=>q.2⟩⟩
     |pointer a=>exact⟨[.pointer a],fun b=>⟨fun⟨u,d,q⟩=>⟨rfl,by rw[dB.1 d] at q; exact q⟩,fun q=>⟨_,.head _,q.2⟩⟩⟩
     |slice a k c=>exact⟨[.slice a k c],fun b=>⟨fun⟨u,d,q⟩=>⟨rfl,by rw[dB.1 d] at q; exact q⟩,fun q=>⟨_,.head _,q.2⟩⟩⟩
     |map r=>exact⟨[.map r],fun b=>⟨fun⟨u,d,q⟩=>⟨rfl,by rw[dB.1 d] at q; exact q⟩,fun q=>⟨_,.head _,q.2⟩⟩⟩
     |_=>exact⟨[],fun b=>⟨fun⟨u,d,_⟩=>(by cases d),fun q=>q.2.elim⟩⟩
   refine⟨l++m,fun b=>⟨fun⟨u,d,q⟩=>?_,fun⟨i,hi,e,j⟩=>?_⟩⟩
   ·rcases dA.1 d with d|d
    ·obtain⟨i,hi,e⟩:=(o b).1 ⟨u,d,q⟩;exact⟨i,by omega,e⟩
    ·exact⟨n,by omega,(y b).1 ⟨u,d,q⟩⟩
   ·rcases Nat.lt_succ_iff_lt_or_eq.1 hi with h1|rfl
    ·obtain⟨u,d,q⟩:=(o b).2 ⟨i,h1,e,j⟩;exact⟨u,eZ _ d,q⟩
    ·obtain⟨u,d,q⟩:=(y b).2 ⟨e,j⟩;exact⟨u,d8 _ d,q⟩
 obtain⟨l,o⟩:=s h.length;refine⟨l.toArray,fun b=>⟨fun q=>?_,fun⟨id,e,j⟩=>?_⟩⟩
 ·obtain⟨id,_,e,j⟩:=(o b).1 (by simpa using q);exact⟨id,e,j⟩
 ·have v:id<h.length:=by
   rcases dV id h.length with h'|h'
   ·exact h'
   ·letI:Ghost:=Gh fun _=>False
    rw[GG _ _ h'] at e; cases e
  simpa using(o b).2 ⟨id,v,e,j⟩
def Œ {w:World} {l:Nat} {o':Obj} {c:Loop} (d:w.heap[l]?=some (.loop c)) (b:Nat) (o:Obj) (hb:w.heap[b]?=some o) (hd:LX o=true\/b≠l):(w.putObj l o').heap[b]?=some o:=by
 have:b≠l:=fun e=>by
  subst e;rcases hd with hd|hd
  ·rw[d] at hb; cases hb; cases hd
  ·exact hd rfl
 rw[World.putObj_heap_other this]; exact hb
def L5 {w:World} {l:Nat} {o':Obj} {d:Loop} (e:w.heap[l]?=some (.loop d)) (c:Globs.Φ w) (b:Nat) (hb:b<Globs.n):(w.putObj l o').heap[b]?=w.heap[b]?:=by
 obtain⟨o,h1,h2⟩:=Globs.dat w c b hb;rw[h1]; exact Œ e b o h1 (.inl h2)
def RJ.round {E:Env ρ} {N:Nat} {call:rT Nat->Bool->Nat->rT AV->rT Blk->(AV->rT Blk->rF ρ)->rF ρ} (hEnv:∀[Ghost],Γ E->jM E N call) (hDraw:∀[Ghost],jM E N call->qB E N call) (R:x.path.length+2=N) (hy:@Γ _ g ρ E)
 {gop:Operand} {ps:Array Tmp} {A Bd:Code} {p0:Tmp} (hps:ps.toList=[p0]) (hL:∀[Ghost],Γ E->∀z∈Ø x.bid A++Ø x.bid Bd,kT E x.path x.fid z.1 z.2)
 (hag:x.it.et.isAgg=false) (htm:∀p v v',(à x.head x.cs x.vs p v').t=(à x.head x.cs x.vs p v).t) (hst:∀p v,(à x.head x.cs x.vs p v).t.all (st3 x.pin)=true)
 (hlen:∀v,x.pin<=(à x.head x.cs x.vs p v).h.length)
 (law:∀p v y (k:Val (tyL x.vs)->rF ρ),Br E call x.fid x.path x.pin x.bid (.rf gop ps A Bd) (à x.head x.cs x.vs p v) (enc x.it.et y) (fun S=>match tq x.head x.pin x.cs x.vs S with
  |some (p',v)=>atP p k p' v
  |none=>none)=x.bF p v y k)
 {J:FuncId} {dn:Nat} {l:Nat} (hl1:W1.heap[l]?=some (.loop {state:=.ready,pending:=none,fn:=J,tmps:=a.tmps,params:=ps,assign:=A,body:=Bd,defers:=dn})) (hgl:g.B<=l) (hgB:g.B<=W1.heap.size) (ht1:∃v,t1=(à x.head x.cs x.vs p v).t) (htl:t1.length<=a.tmps.size)
 {O X:Nat->Prop} {pre:rT (Val x.it.et)} {y:Val x.it.et} {u:Value} {W:World} (H:RJ g x ν h p xs Kf r ν1 h1 a t1 W1 O X pre W) (hOX:∀b,O b->X b) (hXs:∀b,X b->b<W.heap.size) (hpre:pre++[y] <+: xs) (hcr:CR W X x.it.et y [u]) :
 YieldAt Fence.wide 0 E.P l #[u] W fun e W'=>e=.returned (.bool true)/\W'.os=W.os/\W'.tape=W.tape/\W'.output=W.output/\W.heap.size<=W'.heap.size /\
  ∃us,(∀b,b<W.heap.size->¬O b->W'.heap[b]?=W.heap[b]?/\¬Ĭ (.agg us) b)/\(∀b,Ĭ (.agg us) b->∃o,W'.heap[b]?=some o/\LX o=true)/\RJ g x ν h p xs Kf r ν1 h1 a t1 W1 (Ĭ (.agg us)) (fun b=>(X b/\¬O b)\/Ĭ (.agg us) b) (pre++[y]) W':=by
 obtain⟨e1,e2,e3,e4,e5,ν',v',suf,q1,q2,q3,q4,q5,q6,q7,q8⟩:=H
 -- what is yielded is what comes next
 obtain⟨n,rfl⟩:∃n,suf=y::n:=by
  obtain⟨s,hs⟩:=hpre;rw[q1,dH] at hs;exact⟨s,(List.append_cancel_left hs).symm⟩
 have hl:W.heap[l]?=_:=e5 l _ hl1 rfl;obtain⟨GX,hGX⟩:∃GX:Nat->Prop,GX=fun k=>X k/\¬O k/\k<W.heap.size:=⟨_,rfl⟩;rw[<-hGX] at q4 q5
 letI gr:Ghost:=g.re GX [] (some l) W.heap.size
 have hyr:Γ E:=hy;have hE:=hEnv hyr;have hD:=hDraw hE;obtain⟨S,hS⟩:∃S,S=à x.head x.cs x.vs p v':=⟨_,rfl⟩
 have hSt:S.t=t1:=by obtain⟨v0,h0⟩:=ht1; rw[hS,h0]; exact htm p v0 v'
 have hlen':x.pin<=S.h.length:=by rw[hS]; exact hlen v'
 rw[<-hS] at q3 q4 q5 q6 q7 q8;have H0:HR ν' S.h W:=HR.re (g:=g.re GX [] none 0) q4
 have V0:∀i,VR ν' S.h W (lk S.t i) (a.tmps.getD i undef):=fun i=>by rw[hSt]; exact q5 i
 have avX:∀b,Av ν' S.h b->X b:=fun b hb=>by
  rcases hb with hb|hb
  ·exact hOX b ((q3 b).2 hb)
  ·have hb:GX b:=hb;rw[hGX] at hb; exact hb.1
 have hu:VR ν' S.h W (enc x.it.et y) u:=anQ hag (CR.mono avX hcr);have fr0:∀(W2:World) (r2:Loop),W2.heap[l]?=some (.loop r2)->W.heap.size<=W2.heap.size->Fr W2 []:=fun W2 r2 h2 h3=>⟨⟨[],rfl,fI,fun _ q=>(by cases q)⟩,fun l' e=>by cases e; exact⟨r2,h2⟩,dG hgB e4,h3⟩
 have sim0:Sim ν' {t:=upd S.t p0 (enc x.it.et y),h:=S.h} {tmps:=a.tmps.setIfInBounds p0 u,defers:=[]} W:=by
  have s0:Sim ν' S {tmps:=a.tmps,defers:=[]} W:=⟨fr0 W _ hl (du _),by rw[hSt]; exact htl,V0,H0⟩;exact s0.put (Ev.refl _ _ _ _) H0 (some p0) hu
 -- the law
 have C:=law p v' y (fun v=>GZ (x.bF p) n v Kf);rw[show x.bF p v' y (fun v=>GZ (x.bF p) n v Kf)=some r from q2,<-hS] at C;unfold Br at C;simp only[hps] at C;have hLr:∀z∈Ø x.bid A++Ø x.bid Bd,kT E x.path x.fid z.1 z.2:=hL hyr;have hgo:=uF hE R A x.bid _ _ ν' _ W (fun _=>hD) (fun z hz=>hLr z (List.mem_append_left _ hz)) C sim0 hlen'
 have htm0:((ps.zip #[u]).foldl (fun t (p,v)=>t.setIfInBounds p v) a.tmps)=a.tmps.setIfInBounds p0 u:=by
  have:ps=#[p0]:=by rw[<-d9,hps]
  rw[this]; simp
 refine ⟨_, _, _, _, run_yield hl (by have : ps = #[p0] := by (rw [<- d9, hps])
                                      rw[this]; rfl),?_⟩
 rw[htm0];refine roundIn_of_wpIn (F:=Fence.wide) trivial (wpIn_mono (show A.wpIn (Fence.wide.inRound l) 0 E.P _ _ W from hgo) fun e aA WA hA=>?_);obtain⟨Y,SA,sA,j,lnA,ddA,kA⟩:=hA
 cases e with
 |normal =>
  simp only at kA;have T:WA.heap[l]?=some (.loop _):=H0.nd j l _ hl rfl;refine⟨_,run_beginRound T rfl,?_⟩;have d:iL gr Y SA.h WA gr.G (WA.putObj l (.loop {state:=.busy,pending:=none,fn:=J,tmps:=a.tmps,params:=ps,assign:=A,body:=Bd,defers:=dn})):=iL.nds rfl rfl rfl (by simp) fun b o hb hd=>Œ T b o hb (hd.imp id fun hlt=>by have:b<g.B:=hlt; omega);obtain⟨Wb,hWb⟩:∃Wb,Wb=WA.putObj l (.loop {state:=.busy,pending:=none,fn:=J,tmps:=a.tmps,params:=ps,assign:=A,body:=Bd,defers:=dn}):=⟨_,rfl⟩;rw[<-hWb] at d ⊢
  have hlb:Wb.heap[l]?=some (.loop {state:=.busy,pending:=none,fn:=J,tmps:=a.tmps,params:=ps,assign:=A,body:=Bd,defers:=dn}):=by rw[hWb]; exact World.putObj_heap_same (å T)
  have sB:Sim Y SA aA Wb:=by
   refine⟨?_,sA.len,fun i=>VR.step (g:=gr) (D:=[]) (Q:=some l) (M:=W.heap.size) d (sA.tmps i),HR.step (g:=gr) (D:=[]) (Q:=some l) (M:=W.heap.size) d (fun b hb=>dD (sA.heap.ghlt b hb) d.size) (fun b ⟨i,hi,hb⟩=>sA.heap.ghne i b hi hb) sA.heap⟩;obtain⟨⟨ms,m1,m2,m3⟩,_,m4,m5⟩:=sA.defers;refine⟨⟨ms,m1,m2,fun k hk=>⟨?_,(m3 k hk).2⟩⟩,fun l' e=>by cases e; exact⟨_,hlb⟩,m4,dG m5 d.size⟩;rw[hWb];exact Œ T k _ (m3 k hk).1 (.inr fun e=>by have hk0:=(m3 k hk).1; rw[e,T] at hk0; cases hk0)
  have hgo2:=uF hE R Bd x.bid _ _ Y _ Wb (fun _=>hD) (fun z hz=>hLr z (d8 _ hz)) kA sB lnA;refine wpIn_mono (show Bd.wpIn (Fence.wide.inRound l) 0 E.P _ _ Wb from hgo2) fun e aC WC hC=>?_;obtain⟨νC,SC,sC,m,lnC,ddC,L⟩:=hC
  cases e with
  |normal =>
   simp only at L
   split at L<;>try (cases L; done)
   rename_i p' Z hm;obtain⟨hp',L⟩:=al3 L;subst hp';obtain⟨V,sD,evD,lnD,ddD⟩:=vf _ _ _ _ _ _ _ νC aC WC hm sC;have I:WC.heap[l]?=some (.loop _):=sB.heap.nd m l _ hlb rfl;have hrun:=run_endRound (P:=E.P) none I;obtain⟨K,c⟩:∃K,K=WC.putObj l (.loop {state:=.ready,pending:=none,fn:=J,tmps:=a.tmps,params:=ps,assign:=A,body:=Bd,defers:=dn}):=⟨_,rfl⟩;refine⟨_,K,by rw[c]; exact hrun,rfl,?_⟩;have hWs:W.heap.size<=WC.heap.size:=dG j.size (dG d.size m.size)
   have s4:K.heap.size=WC.heap.size:=by rw[c]; simp
   have h4l:K.heap[l]?=some (.loop {state:=.ready,pending:=none,fn:=J,tmps:=a.tmps,params:=ps,assign:=A,body:=Bd,defers:=dn}):=by rw[c]; exact World.putObj_heap_same (å I)
   have h4o:∀b,b≠l->K.heap[b]?=WC.heap[b]?:=fun b hb=>by rw[c]; exact World.putObj_heap_other hb
   have hbo:∀b,b≠l->Wb.heap[b]?=WA.heap[b]?:=fun b hb=>by rw[hWb]; exact World.putObj_heap_other hb
   have U:∀b,b<W.heap.size->¬qD ν' S.h b->K.heap[b]?=W.heap[b]?/\¬qD V (à x.head x.cs x.vs p' Z).h b:=fun b hb hn=>by
    obtain⟨k1,k2⟩:=j.keep b hb hn;obtain⟨k3,k4⟩:=m.keep b (dD hb (dG j.size d.size)) k2;obtain⟨k5,k6⟩:=evD.keep b (dD hb hWs) k4;refine⟨?_,k6⟩
    by_cases hbl:b=l
    ·rw[hbl,h4l,hl]
    ·rw[h4o b hbl,k3,hbo b hbl,k1]
   obtain⟨us,hus⟩:=aiw V (à x.head x.cs x.vs p' Z).h
   have o4:K.os=W.os/\K.tape=W.tape/\K.output=W.output:=by
    rw[c];exact⟨m.os.trans (d.os.trans j.os),m.tape.trans (d.tape.trans j.tape),m.output.trans (d.output.trans j.output)⟩
   have KG4:iL gr V (à x.head x.cs x.vs p' Z).h WC (fun k=>((X k/\¬O k)\/Ĭ (.agg us) k)/\¬Ĭ (.agg us) k/\k<K.heap.size) K:=by
    refine⟨by rw[c]; rfl,by rw[c]; rfl,by rw[c]; rfl,fM s4.symm,fun b hb hn hx=>?_,fun b o hb ho _=>?_,fun b o hb ho hlt=>?_,fun hΦ b hb=>by rw[c]; exact L5 I hΦ b hb⟩
    ·obtain⟨hx1,hx2,_⟩:=hx;obtain⟨hx3,hx4⟩:=hx1.resolve_right hx2;refine hn (.inr ?_);show GX b;rw[hGX]; exact⟨hx3,hx4,hXs b hx3⟩
    ·rw[c]; exact Œ I b o hb (.inl ho)
    ·rw[c]; exact Œ I b o hb (.inr fun e=>by have:b<g.B:=hlt; omega)
   refine⟨o4.1,o4.2.1,o4.2.2,by rw[s4]; exact hWs,us,fun b hb hn=>?_,fun b hb=>?_,?_⟩
   ·obtain⟨k1,k2⟩:=U b hb fun hL=>hn ((q3 b).2 hL);exact⟨k1,fun q=>k2 ((hus b).1 q)⟩
   ·obtain⟨o,k1,k2⟩:=sD.heap.dat ((hus b).1 hb);exact⟨o,by rw[c]; exact Œ I b o k1 (.inl k2),k2⟩
   ·refine⟨o4.1.trans e1,o4.2.1.trans e2,o4.2.2.trans e3,dG e4 (by rw[s4]; exact hWs),fun k o hk ho=>?_,V,Z,n,by rw[q1,dH]; rfl,L,hus,?_,fun i=>?_,fun b hb hn=>?_,fun id hid=>?_,?_⟩
    ·by_cases hkl:k=l
     ·rw[hkl] at hk ⊢;rw[h4l,<-hl1,hk]
     ·rw[h4o k hkl];have k1:=H0.nd j k o (e5 k o hk ho) ho;have k2:Wb.heap[k]?=some o:=(hbo k hkl).trans k1;exact sB.heap.nd m k o k2 ho
    ·exact HR.step (g:=gr) (D:=[]) (Q:=none) (M:=0) KG4 (fun b hb=>hb.2.2) (fun b hl hb=>hb.2.1 ((hus b).2 hl)) sD.heap
    ·have hs3:st3 x.pin (lk t1 i)=true:=by
      rw[<-hSt,hS];exact aia rfl _ (hst p' v') i
     have v1:VR ν' S.h W (lk t1 i) (a.tmps.getD i undef):=by rw[<-hSt]; exact V0 i
     have v2:=VR.stab j hs3 v1;have v3:VR Y SA.h Wb (lk t1 i) (a.tmps.getD i undef):=VR.step (g:=gr) (D:=[]) (Q:=some l) (M:=W.heap.size) d v2;have v4:=VR.stab evD hs3 (VR.stab m hs3 v3);exact VR.step (g:=gr) (D:=[]) (Q:=none) (M:=0) KG4 v4
    ·exact(U b (dD hb e4) (q6 b hb hn)).2
    ·exact Blk.next_trans (Blk.next_trans (Blk.next_trans (q7 id hid) (j.blk id hid)) (m.blk id hid)) (evD.blk id hid)
    ·exact((q8.trans ddA (du _)).trans ddC (du _)).trans ddD (du _)
  |exit id=>cases L
  |goto l=>cases L
  |ret=>cases L
  |panic ch=>cases L
  |outgrown=>cases L
 |exit id=>cases kA
 |goto l=>cases kA
 |ret=>cases kA
 |panic ch=>cases kA
 |outgrown=>cases kA
def Zw (T:Tpl) (cs vs:rT Ty) (p:Val (tyL cs)) (v:Val (tyL vs)):(à T cs vs p v).h.length=T.heap.length:=by
 letI:Ghost:=Gh fun _=>False
 unfold à;exact si _ _
def agW {E:Env ρ} {N:Nat} {call:rT Nat->Bool->Nat->rT AV->rT Blk->(AV->rT Blk->rF ρ)->rF ρ} (hEnv:∀[Ghost],Γ E->jM E N call) (hDraw:∀[Ghost],jM E N call->qB E N call) (hpath:x.path.length+2=N) (hy:@Γ _ g ρ E)
 {gop:Operand} {ps:Array Tmp} {A Bd:Code} (hL:∀[Ghost],Γ E->∀z∈Ø x.bid A++Ø x.bid Bd,kT E x.path x.fid z.1 z.2)
 (hit:jZ E.P x.it) (htm:∀p v v',(à x.head x.cs x.vs p v').t=(à x.head x.cs x.vs p v).t) (hst:∀p v,(à x.head x.cs x.vs p v).t.all (st3 x.pin)=true)
 (law:∀p v y (k:Val (tyL x.vs)->rF ρ),Br E call x.fid x.path x.pin x.bid (.rf gop ps A Bd) (à x.head x.cs x.vs p v) (enc x.it.et y) (fun S=>match tq x.head x.pin x.cs x.vs S with
  |some (p',v)=>atP p k p' v
  |none=>none)=x.bF p v y k) (hps:∃p0,ps.toList=[p0])
 (hplain : ∀ (f : Nat) (fn : Func), E.P.funcs[f]? = some fn -> (fn.name == "runtime.NumGoroutine") = false)
 {m:Nat} {S:St} {K:Exit->St->rF ρ} {r:ρ} {ν:Nat->Value} {a:Act} {w:World} (e:rngK x m (ev S.t gop) S K=some r) (H:@Sim _ g ν S a w) (hm:m<=S.h.length) :
 (Code.rangeFunc gop ps A Bd).wpIn (@fen _ g) 0 E.P (@aax _ g ρ m ν S.h w K r) a w:=by
 obtain⟨p0,hps⟩:=hps;unfold rngK at e
 split at e<;>try (cases e; done)
 rename_i hmp;have hmp:m<=x.pin:=eE hmp
 split at e<;>try (cases e; done)
 rename_i c id hg
 split at e<;>try (cases e; done)
 rename_i hcm;obtain rfl:=dF hcm
 split at e<;>try (cases e; done)
 rename_i cs hl
 split at e<;>try (cases e; done)
 rename_i hchk;simp only[dt] at hchk;obtain⟨hown,hnr⟩:=hchk
 split at e<;>try (cases e; done)
 rename_i d hd
 split at e<;>try (cases e; done)
 rename_i p v hmt;simp only[Â] at e
 split at e<;>try (cases e; done)
 rename_i xs hxs
 -- the iterator
 have hH:=@Sim.heap _ g _ _ _ _ H;have hbid:=@HR.blk _ g _ _ _ hH id;rw[hl] at hbid;obtain⟨b0,cb,te,hν,hb0,hcells⟩:=hbid;have hgv:@VR _ g ν S.h w (ev S.t gop) (a.eval gop):=@Ĉ _ g _ _ _ _ H gop;rw[hg] at hgv;obtain⟨fs,cps,hge,hfs,hcps⟩:=hgv
 have hfs0:fs=#[]:=by rw[<-d9]; exact hfs.nil_left
 obtain⟨uc,hu1,hu2⟩:=hcps.one
 have huc:uc=.pointer (some ⟨b0,0,none⟩):=by
  obtain⟨_,b',_,q1,q2⟩:=hu2;rw[hν] at q1; cases q1; exact q2
 have hcps0:cps=#[.pointer (some ⟨b0,0,none⟩)]:=by rw[<-d9,hu1,huc]
 rw[hfs0,hcps0] at hge
 -- the box is let go
 obtain⟨h0,hh0⟩:∃h0,h0=î S.h id .dead:=⟨_,rfl⟩;have hid:id<S.h.length:=Ν hl (by simp)
 letI g1:Ghost:=g.re (wP g b0) g.D g.Q g.M
 have H1:HR ν h0 w:=by rw[hh0]; exact aiS hl hν hnr hH
 have sim1:Sim ν {t:=S.t.map (clr id),h:=h0} a w:=by
  refine⟨@Sim.defers _ g _ _ _ _ H,by rw[List.length_map]; exact @Sim.len _ g _ _ _ _ H,fun i=>?_,H1⟩;show VR ν h0 w (lk (S.t.map (clr id)) i) _;rw[ah9 rfl,hh0];unfold clr
  split
  ·exact aiR hl hν ‹_› (@Sim.tmps _ g _ _ _ _ H i)
  ·trivial
 rw[<-hh0] at hmt;obtain⟨ν1,sim2,ev1,hp1,dd1⟩:=vf _ _ _ _ _ _ _ ν a w hmt sim1;obtain⟨S1,hS1⟩:∃S1,S1=à x.head x.cs x.vs p v:=⟨_,rfl⟩;rw[<-hS1] at sim2 ev1 hp1 dd1
 have hlen:∀v,x.pin<=(à x.head x.cs x.vs p v).h.length:=fun v'=>by rw[Zw,<-Zw x.head x.cs x.vs p v,<-hS1]; exact hp1
 have L01:∀b,qD ν1 S1.h b->qD ν h0 b:=fun b hb=>Classical.byContradiction fun hn=>(ev1.keep b (sim2.heap.lt hb) hn).2 hb
 have L0:∀b,qD ν h0 b->qD ν S.h b/\b≠b0:=fun b ⟨j,hj,ho⟩=>by
  rw[hh0,sh] at hj
  split at hj
  ·cases hj
  ·rename_i hne;refine⟨⟨j,hj,ho⟩,fun eb=>hne ⟨?_,hid⟩⟩;exact @HR.inj _ g _ _ _ hH j id b hj (by rw[hl]; rfl) ho (by rw[hν,eb]; rfl)
 have hb0L:qD ν S.h b0:=⟨id,by rw[hl]; rfl,by rw[hν]; rfl⟩
 -- what is known of the frame
 have hfr:=@Sim.defers _ g _ _ _ _ H;have hgBw:g.B<=w.heap.size:=dG hfr.2.2.1 hfr.2.2.2;refine wpIn_rangeFunc ?_;intro fn hfn
 -- the record
 obtain⟨l,marks,dn,W1,henter,hl1,hlw,hW1s,hW1o,hW1d,hmarks⟩:∃(l:Nat) (marks:rT Nat) (dn:Nat) (W1:World),(Instr.enterLoop fn a.tmps ps A Bd (@fen _ g).round).run E.P w=.ok (l,marks.map mk1) W1 /\
  W1.heap[l]?=some (.loop {state:=.ready,pending:=none,fn:=fn,tmps:=a.tmps,params:=ps,assign:=A,body:=Bd,defers:=dn})/\w.heap.size<=l/\w.heap.size<=W1.heap.size/\(W1.os=w.os/\W1.tape=w.tape/\W1.output=w.output)/\(∀b,b<w.heap.size->W1.heap[b]?=w.heap[b]?) /\
  (marks.Nodup/\∀k∈marks,W1.heap[k]?=some (.deferred (some []))/\w.heap.size<=k):=by
  have hro:(@fen _ g).round=g.Q:=rfl;rw[hro]
  cases hQ:g.Q with
  |none =>
   refine⟨w.heap.size+1,[w.heap.size],w.heap.size,_,run_enterLoop_outer _ _ _ _ _,?_,by omega,by simp; omega,⟨rfl,rfl,rfl⟩,fun b hb=>?_,by simp,fun k hk=>?_⟩
   ·have:=World.alloc_heap_new (w.alloc (.deferred (some []))) (.loop {state:=.ready,pending:=none,fn:=fn,tmps:=a.tmps,params:=ps,assign:=A,body:=Bd,defers:=w.heap.size})
    rwa [World.size_alloc] at this
   ·rw[RowKit.Below.heap_alloc _ _ _ (by simp; omega),RowKit.Below.heap_alloc _ _ _ hb]
   ·rw[dB.1 hk];exact⟨(RowKit.Below.heap_alloc _ _ _ (by simp)).trans (World.alloc_heap_new w _),du _⟩
  |some l0 =>
   obtain⟨r0,hr0⟩:=hfr.2.1 l0 hQ;refine⟨w.heap.size,[],r0.defers,_,run_enterLoop_inner hr0 _ _ _ _ _,World.alloc_heap_new _ _,du _,by simp,⟨rfl,rfl,rfl⟩,fun b hb=>RowKit.Below.heap_alloc _ _ _ hb,fI,fun k hk=>by cases hk⟩
 obtain⟨hmn,hmk⟩:=hmarks;have hlW1:l<W1.heap.size:=å hl1;have hold:∀(b:Nat) (o:Obj),w.heap[b]?=some o->W1.heap[b]?=some o:=fun b o hb=>(hW1d b (å hb)).trans hb
 -- what the loop's body gets
 obtain⟨us0,hus0⟩:=aiw ν1 S1.h;obtain⟨Kf,hKf⟩:∃Kf:Val (tyL x.vs)->rF ρ,Kf=fun v=>K .normal (bif Nat.blt id x.pin then {t:=(à x.head x.cs x.vs p v).t,h:=î (à x.head x.cs x.vs p v).h id (.cells (flat x.it.ct d))} else à x.head x.cs x.vs p v):=⟨_,rfl⟩;rw[<-hKf] at e;have htl:S1.t.length<=a.tmps.size:=sim2.len
 letI gp:Ghost:=⟨g.G,[],none,W1.heap.size,l,W1.heap.size,x.it.et,RJ g x ν S.h p xs Kf r ν1 S1.h a S1.t W1,fun O X X' pre W W' hJ hS=>RJ.st (dG hgBw hW1s) hJ hS⟩
 have hgl:g.B<=l:=dG hgBw hlw;have hgB1:g.B<=W1.heap.size:=dG hgBw hW1s;have hyp:@YldP _ gp E.P ⟨x.it.et,xs,false⟩:=⟨rfl,fun O X pre y u W hJ hOX hXs hpre hcr hB=>RJ.round hEnv hDraw hpath hy hps hL hit.agg htm hst hlen law hl1 hgl hgB1 ⟨v,by rw[hS1]⟩ htl hJ hOX hXs hpre hcr⟩
 -- the iterator's state
 obtain⟨νp,hνp⟩:∃νp:Nat->Value,νp=fun n=>if n=0 then .agg us0 else if n=1 then .pointer (some ⟨b0,0,none⟩) else undef:=⟨_,rfl⟩
 have n0:νp 0=.agg us0:=by rw[hνp]; rfl
 have n1:νp 1=.pointer (some ⟨b0,0,none⟩):=by rw[hνp]; rfl
 have Lp:∀k,qD νp (Ζ x.it d) k->Ĭ (.agg us0) k\/k=b0:=by
  rintro k ⟨i,hi,ho⟩
  match i,hi,ho with
  |0,_,ho=>rw[n0] at ho; exact .inl ho
  |1,_,ho=>rw[n1] at ho; cases ho; exact .inr rfl
  |i+2,hi,_=>cases hi
 have OL:∀k,Ĭ (.agg us0) k->qD ν S.h k/\k≠b0:=fun k hk=>L0 k (L01 k ((hus0 k).1 hk))
 have Avp:∀k,@Av _ gp νp (Ζ x.it d) k->@Av _ g ν S.h k:=fun k hk=>by
  rcases hk with hk|hk
  ·rcases Lp k hk with hk|rfl
   ·exact .inl (OL k hk).1
   ·exact .inl hb0L
  ·exact .inr hk
 have hcr0:CR w (@Av _ g ν S.h) x.it.ct d cb.toList:=ċ hd (ÿ.mono (fun _ _ hx=>@VR1.data _ g _ _ _ _ _ hx.1) hcells);have hcr1:CR W1 (@Av _ gp νp (Ζ x.it d)) x.it.ct d cb.toList:=CR.kx ⟨hW1s,fun b _ hn hx=>hn (Avp b hx),fun b o hb _ _=>hold b o hb⟩ hcr0
 have hJ0:RJ g x ν S.h p xs Kf r ν1 S1.h a S1.t W1 (Ĭ (νp 0)) (@Av _ gp νp (Ζ x.it d)) [] W1:=by
  have KG:iL g1 ν1 S1.h w (fun k=>@Av _ gp νp (Ζ x.it d) k/\¬Ĭ (νp 0) k/\k<W1.heap.size) W1:=by
   refine⟨hW1o.1,hW1o.2.1,hW1o.2.2,hW1s,fun b hb hn hx=>?_,fun b o hb _ _=>hold b o hb,fun b o hb _ _=>hold b o hb,fun hΦ b hb=>hW1d b (by obtain⟨o,h1,_⟩:=Globs.dat w hΦ b hb; exact å h1)⟩;obtain⟨hx1,hx2,_⟩:=hx;rcases hx1 with hx1|hx1
   ·rcases Lp b hx1 with q|rfl
    ·rw[n0] at hx2; exact hx2 q
    ·exact hn (.inr (.inr rfl))
   ·exact hn (.inr (.inl hx1))
  refine⟨rfl,rfl,rfl,du _,fun _ _ q _=>q,ν1,v,xs,rfl,e,fun k=>by rw[n0,<-hS1]; exact hus0 k,?_,fun i=>?_,fun b _ hn hL2=>?_,fun i _=>?_,?_⟩
  ·rw[<-hS1];exact HR.step (g:=g1) (D:=[]) (Q:=none) (M:=0) KG (fun b hb=>hb.2.2) (fun b hl2 hb=>hb.2.1 (by rw[n0]; exact(hus0 b).2 hl2)) (@Sim.heap _ g1 _ _ _ _ sim2)
  ·rw[<-hS1];exact VR.step (g:=g1) (D:=[]) (Q:=none) (M:=0) KG (@Sim.tmps _ g1 _ _ _ _ sim2 i)
  ·rw[<-hS1] at hL2;exact hn (L0 b (L01 b hL2)).1
  ·rw[<-hS1]; exact Blk.next_refl _ _ _
  ·rw[<-hS1]; exact Dd.refl _ _
 have Hp:@HR _ gp νp (Ζ x.it d) W1:=by
  refine @HR.mk _ gp _ _ _ (fun i=>?_) (fun i j b hi hj hbi hbj=>?_) (fun b hb=>dD (@HR.ghlt _ g _ _ _ hH b hb) hW1s) (fun i b hi hbi hg=>?_) (Globs.keep _ _ (@HR.glob _ g _ _ _ hH) fun b hb=>hW1d b (by obtain⟨o,h1,_⟩:=Globs.dat w (@HR.glob _ g _ _ _ hH) b hb; exact å h1)) (fun b hb hL=>by
   rcases Lp b hL with q|rfl
   ·exact @HR.globL _ g _ _ _ hH b hb (OL b q).1
   ·exact @HR.globL _ g _ _ _ hH b hb hb0L)
  ·match i with
   |0 =>
    refine⟨us0,n0,fun b hb=>?_,rfl,hJ0⟩;rw[n0] at hb;obtain⟨o,q1,q2⟩:=@HR.dat _ g _ _ _ hH b (OL b hb).1;exact⟨o,hold b o q1,q2⟩
   |1=>exact⟨b0,cb,te,n1,hold _ _ hb0,@lX _ gp νp (Ζ x.it d) W1 _ _ _ hcr1⟩
   |i+2=>exact trivial
  ·match i,j,hi,hj,hbi,hbj with
   |0,0,_,_,_,_=>rfl
   |1,1,_,_,_,_=>rfl
   |0,1,_,_,hbi,hbj=>rw[n0] at hbi; rw[n1] at hbj; cases hbj; exact absurd rfl (OL _ hbi).2
   |1,0,_,_,hbi,hbj=>rw[n1] at hbi; rw[n0] at hbj; cases hbi; exact absurd rfl (OL _ hbj).2
   |i+2,_,hi,_,_,_=>cases hi
   |_,j+2,_,hj,_,_=>cases hj
  ·have hg:g.G b:=hg;have key:∀k,qD ν S.h k->¬g.G k:=fun k ⟨j,hj,ho⟩=>@HR.ghne _ g _ _ _ hH j k hj ho
   match i,hi,hbi with
   |0,_,hbi=>rw[n0] at hbi; exact key b (OL b hbi).1 hg
   |1,_,hbi=>rw[n1] at hbi; cases hbi; exact key _ hb0L hg
   |i+2,hi,_=>cases hi
 have hargs:ÿ (@VR _ gp νp (Ζ x.it d) W1) Aw [.func (.yield l) #[] #[],.pointer (some ⟨b0,0,none⟩)]:=⟨rfl,⟨flat x.it.ct d,b0,rfl,n1,rfl⟩,trivial⟩;obtain⟨⟨gfn,gc,hgf,hgc⟩,hcall⟩:=hit.ok gp rfl d xs hxs hyp νp W1 _ (du _) Hp hargs;refine⟨l,marks.map mk1,W1,{target:=.fn (.func x.it.clo) #[.pointer (some ⟨b0,0,none⟩)],args:=#[.func (.yield l) #[] #[]]},W1,x.it.clo,#[.func (.yield l) #[] #[],.pointer (some ⟨b0,0,none⟩)],W1,henter,?_,fun f' _=>trivial,?_,fun q=>(by cases q),?_⟩
 ·simp only[resolve,rangeCall,hge];simp[go_sem]
 ·simp[invoke,callFunc,Sem.run_bind,run_program,Result.andThen_ok,hgf,hgc,hplain x.it.clo gfn hgf];simpa using hplain x.it.clo gfn hgf
 refine CallsIn.mono (show CallsIn (@fen _ g) 0 E.P _ _ _ _ from hcall) fun en W2 hw=>?_;obtain⟨νq,hq,u,rfl,Hq,evq,hacc,csq,hcsq,hdq⟩:=hw
 -- what the loop leaves
 have hBq:=@HR.blk _ gp _ _ _ Hq 0;rw[hacc] at hBq;obtain⟨us2,k1,k2,k3,k4⟩:=hBq;have k4:RJ g x ν S.h p xs Kf r ν1 S1.h a S1.t W1 (Ĭ (νq 0)) (@Av _ gp νq hq) xs W2:=k4;obtain⟨j1,j2,j3,j4,j5,νe,ve,suf,q1,q2,q3,q4,q5,q6,q7,q8⟩:=k4
 have hsuf:suf=[]:=by
  have:=congrArg List.length q1;rw[dw] at this;exact dZ.1 (by omega)
 rw[hsuf] at q2;have hke:Kf ve=some r:=q2;have hl2:W2.heap[l]?=_:=j5 l _ hl1 rfl;obtain⟨W3,hW3⟩:∃W3,W3=W2.putObj l (.loop {state:=.exhausted,pending:=none,fn:=fn,tmps:=a.tmps,params:=ps,assign:=A,body:=Bd,defers:=dn}):=⟨_,rfl⟩;refine⟨none,W3,by rw[hW3]; exact run_endLoop (P:=E.P) hl2 (by simp),?_⟩;obtain⟨Se,hSe⟩:∃Se,Se=à x.head x.cs x.vs p ve:=⟨_,rfl⟩;rw[<-hSe] at q3 q4 q5 q6 q7 q8
 have s3:W3.heap.size=W2.heap.size:=by rw[hW3]; simp
 have h3o:∀b,b≠l->W3.heap[b]?=W2.heap[b]?:=fun b hb=>by rw[hW3]; exact World.putObj_heap_other hb
 have hG:∀b,g.G b->@Av _ gp νq hq b/\¬Ĭ (νq 0) b/\b<W2.heap.size:=fun b hb=>⟨.inr hb,fun ho=>@HR.ghne _ gp _ _ _ Hq 0 b (by rw[hacc]; rfl) ho hb,@HR.ghlt _ gp _ _ _ Hq b hb⟩;obtain⟨G2,hG2⟩:∃G2:Nat->Prop,G2=fun k=>@Av _ gp νq hq k/\¬Ĭ (νq 0) k/\k<W2.heap.size:=⟨_,rfl⟩;rw[<-hG2] at q4 q5
 have hGs:∀b,g.G b->G2 b:=fun b hb=>by rw[hG2]; exact hG b hb
 have KG3:iL (g.re G2 [] none 0) νe Se.h W2 G2 W3:=by
  refine⟨by rw[hW3]; rfl,by rw[hW3]; rfl,by rw[hW3]; rfl,fM s3.symm,fun b _ hn hb=>hn (.inr hb),fun b o hb ho _=>?_,fun b o hb ho hlt=>?_,fun hΦ b hb=>by rw[hW3]; exact L5 hl2 hΦ b hb⟩
  ·rw[hW3]; exact Œ hl2 b o hb (.inl ho)
  ·rw[hW3]; exact Œ hl2 b o hb (.inr fun q=>by have:b<g.B:=hlt; omega)
 have H3:@HR _ (g.re G2 [] none 0) νe Se.h W3:=HR.step (g:=g.re G2 [] none 0) (D:=[]) (Q:=none) (M:=0) KG3 (fun b hb=>by rw[hG2] at hb; have:=hb.2.2; omega) (fun b hb hg=>by rw[hG2] at hg; exact hg.2.1 ((q3 b).2 hb)) q4;have nd3:∀(k:Nat) (o:Obj),W1.heap[k]?=some o->LX o=false->k≠l->W3.heap[k]?=some o:=fun k o hk ho hkl=>(h3o k hkl).trans (j5 k o hk ho)
 have hSt:Se.t=S1.t:=by rw[hSe,hS1]; exact htm p v ve
 have V3:∀i,@VR _ (g.re G2 [] none 0) νe Se.h W3 (lk Se.t i) (a.tmps.getD i undef):=fun i=>by rw[hSt]; exact VR.step (g:=g.re G2 [] none 0) (D:=[]) (Q:=none) (M:=0) KG3 (q5 i)
 have hfr3:@Fr _ g W3 (marks.map mk1++a.defers):=by
  obtain⟨⟨ms,m1,m2,m3⟩,m4,m5,m6⟩:=hfr;have lt3:∀k∈ms,k<w.heap.size:=fun k hk=>å (m3 k hk).1;refine⟨⟨marks++ms,?_,?_,fun k hk=>?_⟩,fun l' hl'=>?_,m5,by omega⟩
  ·rw[m1,gF,dH]
  ·refine List.nodup_append.2 ⟨hmn,m2,fun k1 h1 k2 h2 q=>?_⟩;have:=(hmk k1 h1).2;have:=lt3 k2 h2;omega
  ·rcases dA.1 hk with hk|hk
   ·obtain⟨z1,z2⟩:=hmk k hk;exact⟨nd3 k _ z1 rfl (fun q=>by rw[q,hl1] at z1; cases z1),dG m6 z2⟩
   ·exact⟨nd3 k _ (hold _ _ (m3 k hk).1) rfl (fun q=>by have:=lt3 k hk; omega),(m3 k hk).2⟩
  ·obtain⟨r',hr'⟩:=m4 l' hl';exact⟨r',nd3 l' _ (hold _ _ hr') rfl (fun q=>by have:=å hr'; omega)⟩
 have ple:x.pin<=Se.h.length:=by rw[hSe]; exact hlen ve
 have blk3:∀i,i<m->i≠id->(lkB S.h i).next ν νe i (lkB Se.h i):=fun i hi hne=>by
  have z1:lkB h0 i=lkB S.h i:=by rw[hh0]; exact Ð _ hne
  have z2:=ev1.blk i (dD hi hmp);rw[z1] at z2;exact Blk.next_trans z2 (q7 i (dD hi hmp))
 have dd3:∀j,j<m->lkB S.h j=.dead->j≠id/\lkB Se.h j=.dead:=fun j hj hd2=>by
  have hne:j≠id:=fun q=>by rw[q,hl] at hd2; cases hd2
  have z1:lkB h0 j=.dead:=by rw[hh0,Ð _ hne]; exact hd2
  exact⟨hne,q8 j (by omega) (dd1 j (by omega) z1)⟩
 have keep3:∀b,b<w.heap.size->¬qD ν S.h b->W3.heap[b]?=w.heap[b]?:=fun b hb hn=>by
  rw[h3o b (by omega),(evq.keep b (by omega) fun hL2=>?_).1,hW1d b hb];rcases Lp b hL2 with q|rfl
  ·exact hn (OL b q).1
  ·exact hn hb0L
 have oss:W3.os=w.os/\W3.tape=w.tape/\W3.output=w.output:=by
  rw[hW3];exact⟨j1.trans hW1o.1,j2.trans hW1o.2.1,j3.trans hW1o.2.2⟩
 have sz3:w.heap.size<=W3.heap.size:=by omega
 rw[hKf] at hke;simp only[<-hSe] at hke
 by_cases hip:id<x.pin
 ·-- the box is there again
  have hbt:Nat.blt id x.pin=true:=g8 hip;rw[hbt] at hke;have hd0:lkB Se.h id=.dead:=q8 id hip (dd1 id hip (by rw[hh0]; exact ã _ hid));have hidl:id<Se.h.length:=dD hip ple;have hq1:=evq.blk 1 (by omega)
  have hν1:νq 1=.pointer (some ⟨b0,0,none⟩):=by
   have:(lkB (Ζ x.it d) 1)=.cells (flat x.it.ct d):=rfl;rw[this] at hq1;exact hq1.2.trans n1
  have hq1b:=@HR.blk _ gp _ _ _ Hq 1;rw[hcsq] at hq1b;obtain⟨b1,c1,e1',z1,z2,z3⟩:=hq1b;rw[hν1] at z1;cases z1
  have lv1:(lkB hq 1).live=true:=by rw[hcsq]; rfl
  have lv0:(lkB hq 0).live=true:=by rw[hacc]; rfl
  have own1:Ĭ (νq 1) b0:=by rw[hν1]; rfl
  have hb02:G2 b0:=by
   rw[hG2];exact⟨.inl ⟨1,lv1,own1⟩,fun q=>absurd (@HR.inj _ gp _ _ _ Hq 0 1 b0 lv0 lv1 q own1) (by omega),å z2⟩
  have hgb:¬g.G b0:=fun q=>@HR.ghne _ g _ _ _ hH id b0 (by rw[hl]; rfl) (by rw[hν]; rfl) q
  have hlb:b0≠l:=fun q=>by rw[q,hl2] at z2; cases z2
  have hw3:W3.heap[b0]?=some (.cells c1 e1' (0,0)):=(h3o b0 hlb).trans z2;have hcr2:CR W2 (@Av _ gp νq hq) x.it.ct d c1.toList:=ċ hdq (ÿ.mono (fun _ _ hx=>@VR1.data _ gp _ _ _ _ _ hx.1) z3)
  have hcr3:CR W3 (@Av _ (g.re g.G g.D g.Q g.M) (ý νe id (.pointer (some ⟨b0,0,none⟩))) (î Se.h id (.cells (flat x.it.ct d)))) x.it.ct d c1.toList:=by
   refine CR.kx ⟨fM s3.symm,fun b _ hn hx=>hn ?_,fun b o hb ho _=>by rw[hW3]; exact Œ hl2 b o hb (.inl ho)⟩ hcr2;rcases hx with⟨j,hj,ho⟩|hx
   ·by_cases q:j=id
    ·rw[q,Õ] at ho; cases ho; exact .inl ⟨1,lv1,own1⟩
    ·rw[Ð _ q] at hj; rw[Ċ _ _ q] at ho;exact .inl ⟨0,lv0,(q3 b).2 ⟨j,hj,ho⟩⟩
   ·exact .inr hx
  have hrE:=ajJ (g:=g) (D:=g.D) (Q:=g.Q) (M:=g.M) hd0 hidl hGs hb02 hgb (fun q=>@HR.globL _ g _ _ _ hH b0 q hb0L) hw3 (@lX _ (g.re g.G g.D g.Q g.M) _ _ _ _ _ _ hcr3) H3;refine⟨_,_,@Sim.mk _ g _ _ _ _ hfr3 (by show Se.t.length<=_; rw[hSt]; exact htl) (fun i=>ajI (g:=g) (D:=g.D) (Q:=g.Q) (M:=g.M) hd0 hidl hGs hb02 (V3 i)) (HR.er hrE),⟨oss.1,oss.2.1,oss.2.2,sz3,fun b hb hn=>⟨keep3 b hb hn,?_⟩,fun i hi=>?_⟩,?_,fun j hj hd2=>?_,hke⟩
  ·rintro⟨j,hj,ho⟩
   by_cases q:j=id
   ·rw[q,Õ] at ho; cases ho; exact hn hb0L
   ·have hj:(lkB (î Se.h id (.cells (flat x.it.ct d))) j).live=true:=hj;rw[Ð _ q] at hj; rw[Ċ _ _ q] at ho;exact q6 b (by omega) hn ⟨j,hj,ho⟩
  ·show(lkB S.h i).next ν _ i (lkB (î Se.h id (.cells (flat x.it.ct d))) i)
   by_cases q:i=id
   ·subst q;rw[ã _ hidl,hl];exact⟨⟨_,rfl⟩,by rw[Õ,hν]⟩
   ·rw[Ð _ q];have z:=blk3 i hi q;have e:=Ċ νe (.pointer (some ⟨b0,0,none⟩)) q;revert z
    cases lkB S.h i<;>intro z
    ·trivial
    ·exact⟨z.1,e.trans z.2⟩
    ·obtain⟨g',fz,xs',y1,y2,y3⟩:=z;exact⟨g',fz,xs',y1,y2,fun y4=>⟨e.trans (y3 y4).1,(y3 y4).2⟩⟩
    ·exact⟨z.1,e.trans z.2⟩
    ·exact z
    ·exact⟨z.1,e.trans z.2⟩
    ·exact⟨z.1,e.trans z.2⟩
  ·show m<=(î Se.h id (.cells (flat x.it.ct d))).length;rw[Û]; omega
  ·obtain⟨hne,hde⟩:=dd3 j hj hd2;show lkB (î Se.h id (.cells (flat x.it.ct d))) j=.dead;rw[Ð _ hne]; exact hde
 ·have hbt:Nat.blt id x.pin=false:=by
   cases hq:Nat.blt id x.pin with
   |false=>rfl
   |true=>exact absurd (eE hq) hip
  rw[hbt] at hke;have KGl:iL (g.re G2 [] none 0) νe Se.h W3 g.G W3:=iL.less hGs;refine⟨νe,Se,@Sim.mk _ g _ _ _ _ hfr3 (by rw[hSt]; exact htl) (fun i=>VR.step (g:=g.re G2 [] none 0) (D:=g.D) (Q:=g.Q) (M:=g.M) KGl (V3 i)) (HR.step (g:=g.re G2 [] none 0) (D:=g.D) (Q:=g.Q) (M:=g.M) KGl (fun b hb=>by have:=(hG b hb).2.2; omega) (fun b hb hg=>(hG b hg).2.1 ((q3 b).2 hb)) H3),⟨oss.1,oss.2.1,oss.2.2,sz3,fun b hb hn=>⟨keep3 b hb hn,q6 b (by omega) hn⟩,fun i hi=>blk3 i hi (by omega)⟩,by omega,fun j hj hd2=>(dd3 j hj hd2).2,hke⟩
end
end
end Go.Am
end

noncomputable section
namespace Go.Am
variable [Globs] [Ghost]
section
variable {ρ:Type} {ν ν':Nat->Value} {h h':rT Blk} {w w':World} {P:Program}
structure é (ρ:Type) where
 path:rT Nat
 fid:Nat
 bid:Nat
 L:Å
 bF:Val (tyL L.cs)->Val (tyL L.vs)->(Val (tyL L.vs)->rF ρ)->((i:Nat)->Val (tyL (L.zs i))->rF ρ)->rF ρ
def eqL:rT Nat->rT Nat->Bool
 |[],[]=>true
 |a::l,b::m=>Nat.beq a b&&eqL l m
 |_,_=>false
def afA (S:St):rT (é ρ)->rT Nat->Nat->Nat->rF (é ρ)
 |[],_,_,_=>none
 |x::l,path,fid,bid=>match Nat.beq x.bid bid&&(Nat.beq x.fid fid&&(eqL x.path path&&fitsS x.L S)) with
  |true=>some x
  |false=>afA S l path fid bid
def Ε [LC] (tab:rT (é ρ)) (path:rT Nat) (fid bid m:Nat) (S:St) (K:Exit->St->rF ρ):rF ρ :=
 match afA S tab path fid bid with
 |some x=>aaT x.L x.bF m S K
 |none=>none
structure JEnt where
 path:rT Nat
 fid:Nat
 rid:Nat
 pin:Nat
 tpl:Tpl
 vs:rT Ty
def Wx:rT (Nat×ì)->Nat->rF ì
 |[],_=>none
 |x::l,f=>match Nat.beq x.1 f with
  |true=>some x.2
  |false=>Wx l f
def Wp:rT (Nat×Nat)->Nat->rF Nat
 |[],_=>none
 |x::l,s=>match Nat.beq x.1 s with
  |true=>some x.2
  |false=>Wp l s
structure é.Ok (E:Env ρ) (x:é ρ):Prop where
 one:(((ô E.P x.fid).elim [] (Ø 0)).filter fun y=>Nat.beq y.1 x.bid).length=1
 law:∀p v kn kx,goC E (Ğ E (10-x.path.length / 2)) x.fid x.path x.L.pin x.bid (ov (ô E.P x.fid) x.bid) (à x.L.head x.L.cs x.L.vs p v) (Em x.L kn kx)=x.bF p v (kn p) (fun i=>kx i p)
omit [Ghost] in
def ZX:∀{l m:rT Nat},eqL l m=true->l=m
 |[],[],_=>rfl
 |a::l,b::m,h=>by
  simp only[eqL,dt] at h;rw[dF h.1,ZX h.2]
 |[],_::_,h=>by cases h
 |_::_,[],h=>by cases h
omit [Ghost] in
def IL:∀{tab:rT (é ρ)} {path:rT Nat} {fid bid:Nat} {S:St} {x:é ρ},afA S tab path fid bid=some x->x∈tab/\x.path=path/\x.fid=fid/\x.bid=bid
 |[],_,_,_,_,_,h=>by cases h
 |y::tab,path,fid,bid,S,x,h=>by
  unfold afA at h
  split at h
  ·rename_i hb;simp only[dt] at hb;cases h;exact⟨by simp,ZX hb.2.2.1,dF hb.2.1,dF hb.1⟩
  ·obtain⟨h1,h2⟩:=IL h;exact⟨by simp[h1],h2⟩
omit [Ghost] in
def Uw:∀{tab:rT (Nat×ì)} {f:Nat} {p:ì},Wx tab f=some p->(f,p)∈tab
 |[],_,_,h=>by cases h
 |y::tab,f,p,h=>by
  unfold Wx at h
  split at h
  ·rename_i hb;cases h;rw[<-dF hb]; simp
  ·exact gw _ (Uw h)
omit [Ghost] in
def ļ:∀(c:Code) (b0:Nat) {bid:Nat} {b:LI},(bid,b)∈Ø b0 c->∀y∈b.loops bid,y∈Ø b0 c
 |.seq c d,b0,bid,b,h,y,e=>by
  simp only[Ø,dA] at h ⊢;exact h.imp (fun h=>ļ c b0 h y e) (fun h=>ļ d b0 h y e)
 |.cond _ c d,b0,bid,b,h,y,e=>by
  simp only[Ø,dA] at h ⊢;exact h.imp (fun h=>ļ c b0 h y e) (fun h=>ļ d b0 h y e)
 |.block id c,b0,bid,b,h,y,e=>by
  simp only[Ø] at h ⊢;exact ļ c id h y e
 |.loop c,b0,bid,b,h,y,e=>by
  simp only[Ø,dE,Prod.mk.injEq] at h ⊢;rcases h with⟨rfl,rfl⟩|h
  ·exact .inr e
  ·exact .inr (ļ c b0 h y e)
 |.skip,_,_,_,h,_,_=>by cases h
 |.region ..,_,_,_,h,_,_=>by cases h
 |.exit _,_,_,_,h,_,_=>by cases h
 |.ret,_,_,_,h,_,_=>by cases h
 |.label _,_,_,_,h,_,_=>by cases h
 |.goto _,_,_,_,h,_,_=>by cases h
 |.rangeFunc g ps c d,b0,bid,b,h,y,e=>by
  simp only[Ø,dE,dA,Prod.mk.injEq] at h ⊢;rcases h with⟨rfl,rfl⟩|h|h
  ·exact .inr (dA.1 e)
  ·exact .inr (.inl (ļ c b0 h y e))
  ·exact .inr (.inr (ļ d b0 h y e))
 |.scope c,b0,bid,b,h,y,e=>by
  simp only[Ø] at h ⊢;exact ļ c b0 h y e
 |.refuse _,_,_,_,h,_,_=>by cases h
def LI.sz:LI->Nat
 |.lp b=>SizeOf.sizeOf b
 |.rf _ _ a b=>SizeOf.sizeOf a+SizeOf.sizeOf b
omit [Ghost] in
def ď:∀(c:Code) (b0:Nat) {bid:Nat} {b:LI},(bid,b)∈Ø b0 c->b.sz<SizeOf.sizeOf c
 |.seq c d,b0,bid,b,h=>by
  simp only[Ø,dA] at h;rcases h with h|h
  ·have:=ď c b0 h; simp; omega
  ·have:=ď d b0 h; simp; omega
 |.cond _ c d,b0,bid,b,h=>by
  simp only[Ø,dA] at h;rcases h with h|h
  ·have:=ď c b0 h; simp; omega
  ·have:=ď d b0 h; simp; omega
 |.block id c,b0,bid,b,h=>by
  have:=ď c id h; simp; omega
 |.loop c,b0,bid,b,h=>by
  simp only[Ø,dE,Prod.mk.injEq] at h;rcases h with⟨rfl,rfl⟩|h
  ·simp[LI.sz]
  ·have:=ď c b0 h; simp; omega
 |.skip,_,_,_,h=>by cases h
 |.region ..,_,_,_,h=>by cases h
 |.exit _,_,_,_,h=>by cases h
 |.ret,_,_,_,h=>by cases h
 |.label _,_,_,_,h=>by cases h
 |.goto _,_,_,_,h=>by cases h
 |.rangeFunc g ps c d,b0,bid,b,h=>by
  simp only[Ø,dE,dA,Prod.mk.injEq] at h;rcases h with⟨rfl,rfl⟩|h|h
  ·simp[LI.sz]; omega
  ·have:=ď c b0 h; simp; omega
  ·have:=ď d b0 h; simp; omega
 |.scope c,b0,bid,b,h=>by
  have:=ď c b0 h; simp; omega
 |.refuse _,_,_,_,h=>by cases h
def aej (E:Env ρ) (n:Nat):Prop:=∀[Ghost],Γ E->jM E (22-2*n) (Ğ E n)
def zX (E:Env ρ):Prop:=∀n,n<=10->aej E n->∀[Ghost],Γ E->∀(path:rT Nat) (f:Nat) (fn:Func) (c:Code),path.length+2=22-2*n->E.P.funcs[f]?=some fn->fn.body=some c->∀x∈Ø 0 c,kT E path f x.1 x.2
omit [Ghost] in
def zz {c:Code} {bid:Nat} {b:LI} (i:((Ø 0 c).filter fun y=>Nat.beq y.1 bid).length=1) (m:(bid,b)∈Ø 0 c):iw (some c) bid=b:=by
 have d:(bid,b)∈(Ø 0 c).filter fun y=>Nat.beq y.1 bid:=List.mem_filter.2 ⟨m,by simp⟩;obtain⟨z,l⟩:=List.length_eq_one_iff.1 i;rw[l,List.mem_singleton] at d;unfold iw;simp only
 cases e:(Ø 0 c).find? fun y=>y.1==bid with
 |none =>
  have:=fc.1 e _ m;simp at this
 |some y =>
  have k:=List.mem_of_find?_eq_some e;have j:=gH e;have:y∈(Ø 0 c).filter fun y=>Nat.beq y.1 bid:=fD.2 ⟨k,by simpa using j⟩;rw[l,dB] at this;rw[this,<-d]
def aiI:rT (HD ρ)->rT Nat->Nat->Nat->rF (HD ρ)
 |[],_,_,_=>none
 |x::l,path,fid,bid=>match Nat.beq x.bid bid&&(Nat.beq x.fid fid&&eqL x.path path) with
  |true=>some x
  |false=>aiI l path fid bid
def ő (tab:rT (HD ρ)) (path:rT Nat) (fid bid m:Nat) (g:AV) (S:St) (K:Exit->St->rF ρ):rF ρ :=
 match aiI tab path fid bid with
 |some x=>rngK x m g S K
 |none=>none
omit [Ghost] in
def Uv:∀{tab:rT (HD ρ)} {path:rT Nat} {fid bid:Nat} {x:HD ρ},aiI tab path fid bid=some x->x∈tab/\x.path=path/\x.fid=fid/\x.bid=bid
 |[],_,_,_,_,h=>by cases h
 |y::tab,path,fid,bid,x,h=>by
  unfold aiI at h
  split at h
  ·rename_i hb;simp only[dt] at hb;cases h;exact⟨by simp,ZX hb.2.2,dF hb.2.1,dF hb.1⟩
  ·obtain⟨h1,h2⟩:=Uv h;exact⟨by simp[h1],h2⟩
def Eo:LI->Bool
 |.rf _ ps _ _=>match ps.toList with
  |[_]=>true
  |_=>false
 |_=>true
omit [Ghost] in
def GD [LC] {E:Env ρ} (hmix:E.P.follows .mixedOrders=true) {tab:rT (é ρ)} (Y:E.loops=Ε tab) (V:∀x∈tab,x.Ok E) {rtab:rT (HD ρ)} (hR:E.ranges=ő rtab) (C:∀x∈rtab,x.Ok E) (T:∀x∈rtab,Eo (iw (ô E.P x.fid) x.bid)=true):zX E:=by
 intro n hn l g0 o path f fn c hp hf hc
 have u:ô E.P f=some c:=by simp only[ô,hf,hc]
 have I:∀(N:Nat) (x:Nat×LI),x.2.sz<N->x∈Ø 0 c->∀[Ghost],Γ E->kT E path f x.1 x.2:=by
  intro N
  induction N with
  |zero=>intro x h; omega
  |succ N ih =>
   intro⟨bid,b⟩ hN B
   have G:∀y∈b.loops bid,y.2.sz<N:=fun y o=>by
    cases b with
    |lp b=>have:=ď b bid (bid:=y.1) (b:=y.2) o; simp only[LI.sz] at hN; omega
    |rf gop ps A Bd =>
     simp only[LI.sz] at hN;rcases dA.1 o with o|o
     ·have:=ď A bid (bid:=y.1) (b:=y.2) o; omega
     ·have:=ď Bd bid (bid:=y.1) (b:=y.2) o; omega
   have F:∀[Ghost],Γ E->∀y∈b.loops bid,kT E path f y.1 y.2:=fun J y o=>ih y (G y o) (ļ c 0 B y o) J;intro g1 q
   cases b with
   |lp b =>
    intro m S K r ν a w e H W;rw[Y] at e;unfold Ε at e
    cases j:afA S tab path f bid with
    |none =>
     rw[j] at e;cases e
    |some x =>
     obtain⟨h1,h2,h3,Z⟩:=IL j;obtain⟨i,d⟩:=V x h1;subst h3 Z;rw[u] at i d;simp only[Option.elim] at i
     have hb:ov (some c) x.bid=b:=by unfold ov; rw[zz i B]
     rw[hb] at d
     have hd:10-x.path.length / 2=n:=by rw[h2]; omega
     rw[hd,h2] at d;rw[<-h2] at d;rw[j] at e;exact adv (path:=x.path) vf (l q) (iZ hmix _ _ (l q)) (by rw[h2]; omega) (by rw[h2]; exact F q) x.L x.bF (fun p v kn kx=>d p v kn kx) e H W
   |rf gop ps A Bd =>
    intro m S K r ν a w e H W;rw[hR] at e;unfold ő at e
    cases j:aiI rtab path f bid with
    |none =>
     rw[j] at e;cases e
    |some x =>
     obtain⟨h1,h2,h3,Z⟩:=Uv j;obtain⟨i,X,O,R,d⟩:=C x h1;have s:=T x h1;subst h3 Z;rw[u] at i d s;simp only[Option.elim] at i;rw[zz i B] at d s
     have hd:10-x.path.length / 2=n:=by rw[h2]; omega
     rw[hd] at d;rw[j] at e
     have U:∃p0,ps.toList=[p0]:=by
      simp only[Eo] at s
      split at s
      ·exact⟨_,‹_›⟩
      ·cases s
     exact agW (x:=x) l (fun Y=>iZ hmix _ _ Y) (by rw[h2]; omega) q (fun o z hz=>by rw[h2]; exact F o z hz) X O R (fun p v y k=>(d p v y (atP p k)).trans (by rw[al4])) U (l q).plain e H W
 exact fun x B=>I _ x (gY _) B o
omit [Ghost] in
def L2 [LC] {E:Env ρ} (hmix:E.P.follows .mixedOrders=true) {tab:rT (é ρ)} (d:E.loops=Ε tab) (b:∀x∈tab,x.Ok E) (c:E.ranges=ő []):zX E :=
 GD hmix d b c (fun _ h=>by cases h) (fun _ h=>by cases h)
structure amb where
 path:rT Nat
 fid:Nat
 bid:Nat
 n:Nat
def als:rT amb->rT Nat->Nat->Nat->rF amb
 |[],_,_,_=>none
 |x::l,path,fid,bid=>match Nat.beq x.bid bid&&(Nat.beq x.fid fid&&eqL x.path path) with
  |true=>some x
  |false=>als l path fid bid
def adu (b:Env ρ) (us:rT amb) (path:rT Nat) (fid bid m:Nat) (S:St) (K:Exit->St->rF ρ):rF ρ :=
 match als us path fid bid with
 |some u=>U3 (fun S K=>goC b (Ğ b (10-u.path.length / 2)) u.fid u.path m u.bid (ov (ô b.P u.fid) u.bid) S K) u.n S K
 |none=>b.loops path fid bid m S K
omit [Ghost] in
def Uu:∀{tab:rT amb} {path:rT Nat} {fid bid:Nat} {x:amb},als tab path fid bid=some x->x∈tab/\x.path=path/\x.fid=fid/\x.bid=bid
 |[],_,_,_,_,h=>by cases h
 |y::tab,path,fid,bid,x,h=>by
  unfold als at h
  split at h
  ·rename_i hb;simp only[dt] at hb;cases h;exact⟨by simp,ZX hb.2.2,dF hb.2.1,dF hb.1⟩
  ·obtain⟨h1,h2⟩:=Uu h;exact⟨by simp[h1],h2⟩
def Je {E:Env ρ} {call:rT Nat->Bool->Nat->rT AV->rT Blk->(AV->rT Blk->rF ρ)->rF ρ} {N:Nat} (G:jM E N call) (I:qB E N call) {fid bid m:Nat} {path:rT Nat} (s:path.length+2=N) {b:Code}
 (A:∀x∈Ø bid b,kT E path fid x.1 x.2) {K:Exit->St->rF ρ} {r:ρ} {q:rT Blk} {o:Nat->Value} {u:World}:∀(n:Nat) (S:St) (ν:Nat->Value) (a:Act) (w:World),U3 (fun S K=>goC E call fid path m bid b S K) n S K=some r->Sim ν S a w->m<=S.h.length->Ev m o q u ν S.h w->Dd m q S.h ->
  Code.roundsIn fen 0 E.P b (aax m o q u K r) n a w
 |0,S,ν,a,w,e,_,_,_,_=>by cases e
 |n+1,S,ν,a,w,e,H,J,ev,dd=>by
  rw[roundsIn_succ];simp only[U3] at e;refine wpIn_mono (qr G I s b bid S _ ν a w A e H J) fun x B z ha=>?_;obtain⟨c,j,y,C,k,F,v⟩:=ha;have d:=ev.trans C (du m);have i:=dd.trans F (du m)
  cases x with
  |normal=>exact Je G I s A n j c B z v y k d i
  |exit id=>exact⟨c,j,y,d,k,i,v⟩
  |ret=>exact⟨c,j,y,d,k,i,v⟩
  |goto l=>exact⟨c,j,y,d,k,i,v⟩
  |panic ch=>exact⟨c,j,y,d,k,i,v⟩
  |outgrown=>exact⟨c,j,y,d,k,i,v⟩
omit [Ghost] in
def ahZ {E i:Env ρ} (l:∀[Ghost],Γ i->Bm i) (B:i.P=E.P) (C:i.yld=none) (G:E.ranges=ő []) (hmix:i.P.follows .mixedOrders=true) (v:zX i) {us:rT amb} (J:E.loops=adu i us)
 (s:∀u∈us,(((ô E.P u.fid).elim [] (Ø 0)).filter fun y=>Nat.beq y.1 u.bid).length=1):zX E:=by
 intro n I _ Z _ path f fn c N R T;have j:=mG l (fun L call J=>iZ hmix L call J) v;have q:Γ i:=ŝ C;have k:=j n I q;have o:qB i (22-2*n) (Ğ i n):=iZ hmix _ _ k;have z:=v n I (j n I) q path f fn c N (B▸R) T
 have d:ô E.P f=some c:=by simp only[ô,R,T]
 intro⟨bid,b⟩ F
 cases b with
 |rf gop ps A Bd =>
  intro m S K r ν a w e;rw[G] at e;cases e
 |lp b =>
 intro m S K r ν a w e H O;rw[J] at e;unfold adu at e
 split at e
 ·rename_i u Y;obtain⟨h1,h2,W,V⟩:=Uu Y
  have hd:10-u.path.length / 2=n:=by rw[h2]; omega
  have U:=s u h1;rw[W,V,d] at U
  have hb:ov (some c) bid=b:=by unfold ov; rw[zz U F]
  rw[hd,h2,W,V,B,d,hb] at e;have:=Je k o N (fun y X=>z y (ļ c 0 F y X)) u.n S ν a w e H O (Ev.refl _ _ _ _) (Dd.refl _ _);rw[B] at this;exact wpIn_loop_rounds u.n this
 ·have:=z (bid,.lp b) F m S K r ν a w e H O
  rwa [B] at this
def Vo (H:HR ν h w) {c:AV} {u:Value} (d:VR1 ν h w c u):VRs w Ghost.G (ñ h c) u:=xp H (fun b hb=>.inr hb) d fun id b _ e hb=>H.ghne id b e hb
def ag7 (H:HR ν h w) {id:Nat} {cs:rT AV} (e:lkB h id=.cells cs):(∀b,Ĭ (ν id) b->¬Ghost.G b)/\∀c∈cs,∀u,VR1 ν h w c u->VRs w Ghost.G (ñ h c) u :=
 ⟨fun b hb=>H.ghne id b (by rw[e]; rfl) hb,fun _ _ _ d=>Vo H d⟩
def ÿ.up2:∀{as:rT AV} {vs:rT Value},ÿ (Go.Am.VR2 ν h w) as vs->ÿ (Go.Am.VR ν h w) as vs
 |[],[],_=>trivial
 |_::_,_::_,h=>⟨h.1.up,ÿ.up2 h.2⟩
 |[],_::_,h=>h.elim
 |_::_,[],h=>h.elim
def acD (H:HR ν h w):∀(l:rT Ty) {x:Val (tyL l)} {v:AV} {u:Value},VR ν h w v u->amY l h v=some x->RR w Ghost.G l x u
 |[],_,_,_,_,e=>by cases e
 |[t],x,v,u,b,e=>WV H b (fun _ _ _ c=>Vo H c) (fun _ _ _ d=>ag7 H d) e
 |t::u'::l,x,v,u,b,e=>by
  cases v with
  |tup as =>
   obtain⟨us,rfl,h2⟩:=b;exact⟨us,rfl,QK H (u'::l) t x as us.toList h2.up2 (fun _ _ _ _ _ c=>Vo H c) (fun _ _ _ _ _ d=>ag7 H d) e⟩
  |_=>cases e
def AT.mono {G d:Nat->Prop} (c:∀b,d b->G b):∀{l:rT Ty} {t:Ty} {x:Val (tys t l)} {vs:rT Value},AT w G l t x vs->AT w d l t x vs
 |[],t,x,vs,⟨v,h1,h2⟩=>⟨v,h1,h2.mono c⟩
 |u::l,t,x,vs,⟨v,vs',h1,h2,e⟩=>⟨v,vs',h1,h2.mono c,AT.mono c e⟩
def AL.mono {G c:Nat->Prop} (d:∀b,c b->G b):∀{l:rT Ty} {x:Val (tyL l)} {vs:rT Value},AL w G l x vs->AL w c l x vs
 |[],_,_,h=>h
 |_::_,_,_,h=>AT.mono d h
def AL.VR:∀{l:rT Ty} {x:Val (tyL l)} {vs:rT Value},AL w (Av ν h) l x vs->ÿ (VR ν h w) (abK l x) vs
 |[],_,_,h=>by cases h; trivial
 |_::_,_,_,h=>AT.VR h
end
omit [Ghost] in
def LV {f:Nat} {p:ì} (E:Env (Val (tyL p.rs))) (d:∀[Ghost],Bm E) (hmix:E.P.follows .mixedOrders=true) (hl:zX E) (law:HL p E f):Ķ E.P f p:=by
 intro G x y C w vals B l q
 letI g:Ghost:=Gh G
 have o:=law x;rw[C] at o;unfold topK at o;have hy:∀[Ghost],Γ E:=Bm.yld d;have hall:∀n,n<=10->aej E n:=mG (fun _=>d) (fun L call F=>iZ hmix L call F) hl;have j:∀M,@jM _ (g.re g.G [] none M) _ E 2 (Ğ E 10):=fun M=>@hall 10 (Nat.le_refl _) (g.re g.G [] none M) (@hy _);have H:HR (fun _=>undef) [] w:=⟨fun _=>trivial,fun _ _ _ h=>(by cases h),B,fun _ _ h=>(by cases h),l,fun _ _ ⟨_,h,_⟩=>(by cases h)⟩;have m:∀b,Av (fun _=>undef) [] b->G b:=fun b hb=>hb.elim (fun⟨_,h,_⟩=>by cases h) id;have i:ÿ (VR (fun _=>undef) [] w) (abK p.ts x) vals:=AL.VR (q.mono m);obtain⟨h1,h2⟩:=vQ j (fun M=>@iZ _ (g.re g.G [] none M) _ _ hmix _ _ (j M)) (path:=[]) rfl (fun M fn c z A=>@hl 10 (Nat.le_refl _) (hall 10 (Nat.le_refl _)) (g.re g.G [] none M) (@hy _) [] f fn c rfl z A) o H (Nat.zero_le _) i;refine⟨h1,h2.mono fun e w' s=>?_⟩;obtain⟨ν',h',v,u,rfl,K,J,k,O,N,I⟩:=s;refine⟨u,rfl,acD J _ K I,fun b hb=>(k.keep b hb fun⟨_,h,_⟩=>by cases h).1,k.size,k.os,k.tape,k.output⟩
omit [Ghost] in
def LU [LC] {f:Nat} {p:ì} (E:Env (Val (tyL p.rs))) (b:∀[Ghost],Bm E) (hmix:E.P.follows .mixedOrders=true) {tab:rT (é (Val (tyL p.rs)))} (e:E.loops=Ε tab) (c:∀x∈tab,x.Ok E) (law:HL p E f) (d:E.ranges=ő []:=by rfl):Ķ E.P f p :=
 LV E b hmix (L2 hmix e c d) law
omit [Ghost] in
def MJ [LC] {f:Nat} {p:ì} (E:Env (Val (tyL p.rs))) (c:∀[Ghost],Bm E) (hmix:E.P.follows .mixedOrders=true) {tab:rT (é (Val (tyL p.rs)))} (j:E.loops=Ε tab) (e:∀x∈tab,x.Ok E) {rtab:rT (HD (Val (tyL p.rs)))} (i:E.ranges=ő rtab) (b:∀x∈rtab,x.Ok E) (d:∀x∈rtab,Eo (iw (ô E.P x.fid) x.bid)=true) (law:HL p E f):Ķ E.P f p :=
 LV E c hmix (GD hmix j e i b d) law
omit [Ghost] in
def agY [LC] {f:Nat} {p:ì} (E c:Env (Val (tyL p.rs))) (e:∀[Ghost],Bm E) (b:∀[Ghost],Bm c) (l:c.P=E.P) (hmix:E.P.follows .mixedOrders=true) {tab:rT (é (Val (tyL p.rs)))} (h0:c.loops=Ε tab) (j:∀x∈tab,x.Ok c) {us:rT amb} (n:E.loops=adu c us)
 (d:∀u∈us,(((ô E.P u.fid).elim [] (Ø 0)).filter fun y=>Nat.beq y.1 u.bid).length=1) (law:HL p E f) (k:c.ranges=ő []:=by rfl) (m:E.ranges=ő []:=by rfl) (i:c.yld=none:=by rfl):Ķ E.P f p :=
 LV E e hmix (ahZ (fun _=>b) l i m (l▸hmix) (L2 (l▸hmix) h0 j k) n d) law
def PL (it:amI) (_:AV) (h:rT Blk):rF (rT (Val it.et)×Val it.ct):=match lkB h 0 with
 |.acc t xs=>match decEq t it.et with
  |isTrue e=>match lkB h 1 with
   |.cells cs=>match Ü it.ct cs with
    |some m=>some (uQ (F:=fun t=>rT (Val t)) e xs,m)
    |none=>none
   |_=>none
  |isFalse _=>none
 |_=>none
omit [Ghost] in
def Wo {P:Program} (it:amI) (E:rT (Val it.et)->Env (rT (Val it.et)×Val it.ct)) (z:it.et.isAgg=false) (A:∀xs,(E xs).P=P) (q:∀xs,(E xs).yld=some ⟨it.et,xs,false⟩) (j:∀xs [Ghost],Γ (E xs)->Bm (E xs)) (hmix:P.follows .mixedOrders=true) (hl:∀xs,zX (E xs))
 (law:∀m xs,it.F m=some xs->su (E xs) (Ğ (E xs) 10) [] it.clo Aw (Ζ it m) (PL it)=some (xs,m)):jZ P it:=by
 refine⟨z,fun g V m xs N B ν w vals R H d=>?_⟩
 have i:(E xs).P.follows .mixedOrders=true:=by rw[A]; exact hmix
 have hY:@Γ _ g _ (E xs):=fun y o=>by rw[q] at o; cases o; rw[A]; exact B
 have hall:∀n,n<=10->aej (E xs) n:=mG (j xs) (fun L call O=>iZ i L call O) (hl xs);have l:∀M,@jM _ (g.re g.G [] none M) _ (E xs) 2 (Ğ (E xs) 10):=fun M=>@hall 10 (Nat.le_refl _) (g.re g.G [] none M) hY;obtain⟨h1,h2⟩:=vQ l (fun M=>@iZ _ (g.re g.G [] none M) _ _ i _ _ (l M)) (path:=[]) rfl (fun M fn c J K=>@hl xs 10 (Nat.le_refl _) (hall 10 (Nat.le_refl _)) (g.re g.G [] none M) hY [] it.clo fn c rfl J K) (law m xs N) H R d;rw[A] at h1 h2;refine⟨h1,h2.mono fun e w' C=>?_⟩;obtain⟨ν',h',v,u,rfl,Y,T,S,X,W,b⟩:=C;refine⟨ν',h',u,rfl,T,S,?_⟩;unfold PL at b
 split at b<;>try (cases b; done)
 rename_i t ys k
 split at b<;>try (cases b; done)
 rename_i o _
 split at b<;>try (cases b; done)
 rename_i cs s
 split at b<;>try (cases b; done)
 rename_i U I;subst o;cases b;exact⟨k,cs,s,I⟩
omit [Ghost] in
def iA {p:ì} {E:Env (Val (tyL p.rs))} {f:Nat} (h:∀x:Val (tyL p.ts),topK E f (abK p.ts x) (fun h v=>Â (amY p.rs h v) some)=p.F x):HL p E f:=fun x=>by
 rw[<-h x];congr 1;funext h v;unfold Â
 cases amY p.rs h v<;>rfl
omit [Ghost] in
def Ã {α:Type} {Q:α->Prop}:∀x∈([]:rT α),Q x:=fun _ h=>by cases h
omit [Ghost] in
def À {α:Type} {Q:α->Prop} {a:α} {l:rT α} (h:Q a) (c:∀x∈l,Q x):∀x∈a::l,Q x:=fun x b=>by
 rcases dE.1 b with rfl|b
 ·exact h
 ·exact c x b
@[reducible] def Gk (G:Nat->Prop) (D:rT Deferred) (Q:rF Nat):Ghost:=⟨G,D,Q,0,0,0,.unit,fun _ _ _ _=>False,fun _ _ _ _ _ _ h=>h.elim⟩
end Go.Am
end

noncomputable section
namespace Go.Am
open Go.ChangeShapes Go.WideShapes Go.ChangeAt Go.RowKit
abbrev anJ:Nat->Prop:=fun _=>False
def Rng:(t:Ty)->Val t->Prop
 |.int .i64,n=>-9223372036854775808<=(n:Int)/\(n:Int)<=9223372036854775807
 |.pair a b,x=>Rng a (x:Val a×Val b).1/\Rng b (x:Val a×Val b).2
 |.slice t,l=>∀x∈(l:rT (Val t)),Rng t x
 |_,_=>True
mutual
def akf (P:Program):Nat->Ty->TypeId->Bool
 |0,_,_=>false
 |n+1,τ,t =>
  match P.underlying t with
  |some .bool=>match τ with
   |.bool=>true
   |_=>false
  |some (.int k)=>match τ with
   |.int b=>k==b
   |_=>false
  |some .string=>match τ with
   |.str=>true
   |_=>false
  |some (.slice e)=>match τ with
   |.slice u=>akf P n u e&&(Nat.beq (P.cellsOf e) u.size&&Nat.ble 1 u.size)
   |_=>false
  |some (.struct fs)=>Nat.beq (P.cellsOf t) τ.size&&(τ.isAgg&&fieldsAre P n τ 0 fs.toList)
  |_=>false
def fieldsAre (P:Program):Nat->Ty->Nat->rT Field->Bool
 |0,_,_,_=>false
 |n+1,τ,off,[f]=>Nat.beq f.offset off&&(Nat.beq (P.cellsOf f.type) τ.size&&akf P n τ f.type)
 |n+1,.pair a b,off,f::g::fs=>Nat.beq f.offset off&&(Nat.beq (P.cellsOf f.type) a.size&&(akf P n a f.type&&fieldsAre P n b (off+a.size) (g::fs)))
 |_,_,_,_=>false
end
def VB {α β:Type} {f:α->rF β}:∀{l:rT α} {ys:rT β},l.mapM f=some ys->∀a∈l,∃y,f a=some y
 |[],ys,_,a,ha=>by cases ha
 |b::l,ys,h,a,ha=>by
  rw[List.mapM_cons] at h
  cases hb:f b with
  |none=>rw[hb] at h; cases h
  |some y =>
   rw[hb] at h
   cases c:l.mapM f with
   |none=>simp[c] at h
   |some zs =>
    rcases dE.1 ha with rfl|ha
    ·exact⟨y,hb⟩
    ·exact VB c a ha
def Qo {α:Type} {Q:Nat->α->Prop}:∀n:Nat,(∀i,i<n->∃x,Q i x)->∃xs:rT α,xs.length=n/\∀i x,xs[i]?=some x->Q i x
 |0,_=>⟨[],rfl,fun i x h=>by simp at h⟩
 |n+1,h=>by
  obtain⟨xs,h1,h2⟩:=Qo n fun i hi=>h i (by omega);obtain⟨x,c⟩:=h n (by omega);refine⟨xs++[x],by simp[h1],fun i y b=>?_⟩;rcases dV i n with hi|hi
  ·rw[gI (by omega)] at b; exact h2 i y b
  ·rw[List.getElem?_append_right (by omega),h1] at b
   have:i=n:=by
    rcases dV 0 (i-n) with h0|h0
    ·rw[List.getElem?_eq_none (by simp; omega)] at b; cases b
    ·omega
   subst this;simp at b;rw[<-b]; exact c
section
variable {H:Type} {enc:TypeId×Value->H} {P:Program} {w:World} {sp:Nat->Bool} {held:Bool}
def alG {base:Nat} {a:Addr} {n:Nat} {cs:rT Value} (h:w.cells? base a n=some cs) (c:a.spot=none):CellsAt w a.block a.off cs:=by
 obtain⟨_,k,i⟩:=World.cells?_some h;intro j v d;have e:j<cs.length:=(dC.1 d).1;have:=i j (by omega);rw[d] at this;rw[<-this];congr 1;obtain⟨b,o,s⟩:=a;simp only at c;subst c;exact(add_plain b o j).symm
def aef (enc:TypeId×Value->H) (P:Program) (w:World) (sp:Nat->Bool) (held:Bool) (n:Nat):Prop :=
 ∀(τ:Ty) (t:TypeId) (b:Nat) (cs:rT Value) (d:DataW H) (ps:rT MemPlace),akf P n τ t=true->DataW.trod enc P w 0 sp held b t cs=some (d,ps)->∃x:Val τ,CR w anJ τ x cs/\Rng τ x
def Mp (enc:TypeId×Value->H) (P:Program) (w:World) (sp:Nat->Bool) (held:Bool) (n:Nat):Prop :=
 ∀(τ:Ty) (off:Nat) (fs:rT Field) (b:Nat) (cs:rT Value),fieldsAre P n τ off fs=true->(∀f∈fs,∃y,DataW.trod enc P w 0 sp held b f.type ((cs.drop f.offset).take (P.cellsOf f.type))=some y)->cs.length=off+τ.size->∃x:Val τ,CR w anJ τ x (cs.drop off)/\Rng τ x
set_option maxHeartbeats 1000000 in
def agu {n:Nat} (A:aef enc P w sp held n) (B:Mp enc P w sp held n):aef enc P w sp held (n+1):=by
 intro τ t j cs d ps h e
 cases j with
 |zero=>simp[DataW.trod] at e
 |succ j =>
  unfold akf at h;unfold DataW.trod at e
  split at h
  ·-- bool
   rename_i q;rw[q] at e
   cases τ<;>try (cases h; done)
   rcases cs with _|⟨c,_|⟨U,cs⟩⟩<;>try first|(cases e; done)|(simp at e; done)
   cases c<;>try (cases e; done)
   rename_i b;exact⟨(show Val .bool from b),rfl,trivial⟩
  ·-- int
   rename_i k q;rw[q] at e
   cases τ<;>try (cases h; done)
   rename_i k'
   have hk:k=k':=by simpa using h
   subst hk
   rcases cs with _|⟨c,_|⟨U,cs⟩⟩<;>try first|(cases e; done)|(simp at e; done)
   cases c<;>try (cases e; done)
   rename_i X m;simp only at e
   split at e<;>try (cases e; done)
   rename_i L;obtain⟨rfl,E⟩:=L;refine⟨(show Val (.int X) from m),rfl,?_⟩
   cases X<;>try trivial
   simp only[Lit.wf,dt,decide_eq_true_eq] at E;exact E
  ·-- string
   rename_i q;rw[q] at e
   cases τ<;>try (cases h; done)
   rcases cs with _|⟨c,_|⟨U,cs⟩⟩<;>try first|(cases e; done)|(simp at e; done)
   cases c<;>try (cases e; done)
   rename_i s;exact⟨(show Val .str from s),rfl,trivial⟩
  ·-- slice
   rename_i v q;rw[q] at e
   cases τ<;>try (cases h; done)
   rename_i u;simp only[dt] at h;obtain⟨h1,h2,h3⟩:=h;have F:P.cellsOf v=u.size:=dF h2;have Y:1<=u.size:=eE h3
   rcases cs with _|⟨c,_|⟨U,cs⟩⟩<;>try first|(cases e; done)|(simp at e; done)
   cases c<;>try (cases e; done)
   rename_i base len cap
   cases base with
   |none =>
    cases len<;>cases cap<;>try (cases e; done)
    exact⟨(show Val (.slice u) from[]),⟨none,0,rfl,du _,.inl rfl⟩,fun x K=>by cases K⟩
   |some a =>
    simp only at e
    split at e<;>try (cases e; done)
    rename_i hb
    cases G:(List.range len).mapM (fun i=>(w.cells? 0 (a.add (i*P.cellsOf v)) (P.cellsOf v)).bind (DataW.trod enc P w 0 sp held j v)) with
    |none=>rw[G] at e; cases e
    |some anR =>
     clear e
     have z:∀i,i<len->∃x:Val u,∃us,w.cells? 0 (a.add (i*P.cellsOf v)) (P.cellsOf v)=some us/\CR w anJ u x us/\Rng u x:=by
      intro i hi;obtain⟨y,J⟩:=VB G i (List.mem_range.2 hi)
      cases L:w.cells? 0 (a.add (i*P.cellsOf v)) (P.cellsOf v) with
      |none=>rw[L] at J; cases J
      |some us =>
       rw[L] at J;obtain⟨d',N⟩:=y;obtain⟨x,g1,g2⟩:=A u v j us d' N h1 J;exact⟨x,us,rfl,g1,g2⟩
     obtain⟨xs,T,K⟩:=Qo len z;refine⟨(show Val (.slice u) from xs),⟨some a,cap,by rw[T],by rw[T]; exact hb.2.1,?_⟩,fun x O=>?_⟩
     ·rcases fV len with h0|h0
      ·left; exact dZ.1 (by rw[T,h0])
      ·right;obtain⟨x0,C,c0,_,_⟩:=z 0 h0;have I:=World.cells?_block c0 (by omega);obtain⟨_,l0,g0⟩:=World.cells?_some c0
       have l:a.spot=none:=by
        have h5:=g0 0 (by omega);obtain⟨V,S⟩:∃V,C[0]?=some V:=⟨C[0],dv (by omega)⟩;rw[S] at h5;simpa[Addr.add] using World.cell?_spot h5
       obtain⟨b,o,s⟩:=a;simp only at l;subst l;refine⟨b,o,rfl,id,by simpa[Addr.add] using I,fun i x R=>?_⟩;obtain⟨us,W,q2,_⟩:=K i x R;refine⟨us,q2,?_⟩;rw[add_plain] at W;have:=alG W rfl;rw[F] at this;exact this
     ·obtain⟨i,hi,rfl⟩:=dQ.1 O;obtain⟨us,_,_,g⟩:=K i _ (dv hi);exact g
  ·-- struct
   rename_i fs q;rw[q] at e;simp only[dt] at h;obtain⟨h1,_,h2⟩:=h;have F:P.cellsOf t=τ.size:=dF h1;simp only at e
   split at e<;>try (cases e; done)
   rename_i Z
   cases G:fs.toList.mapM (fun f=>DataW.trod enc P w 0 sp held j f.type ((cs.drop f.offset).take (P.cellsOf f.type))) with
   |none=>rw[G] at e; cases e
   |some xs =>
    have:=B τ 0 fs.toList j cs h2 (VB G) (by omega);simpa using this
  ·cases h
def abE {n:Nat} (A:aef enc P w sp held n) (B:Mp enc P w sp held n):Mp enc P w sp held (n+1):=by
 intro τ off fs c cs h k i;rcases fs with _|⟨f,_|⟨g,fs⟩⟩
 ·simp[fieldsAre] at h
 ·unfold fieldsAre at h;simp only[Bool.and_eq_true] at h;obtain⟨h1,h2,l⟩:=h;obtain⟨⟨d,ps⟩,e⟩:=k f (by simp);rw[Nat.eq_of_beq_eq_true h1,Nat.eq_of_beq_eq_true h2,List.take_of_length_le (by rw[List.length_drop]; omega)] at e;exact A τ f.type c _ d ps l e
 ·cases τ<;>try (simp[fieldsAre] at h; done)
  rename_i a b;unfold fieldsAre at h;simp only[Bool.and_eq_true] at h;obtain⟨h1,h2,l,u⟩:=h;obtain⟨⟨d,ps⟩,e⟩:=k f (by simp);rw[Nat.eq_of_beq_eq_true h1,Nat.eq_of_beq_eq_true h2] at e;obtain⟨x,s,q⟩:=A a f.type c _ d ps l e;simp only[Ty.size] at i;obtain⟨y,o,m⟩:=B b (off+a.size) (g::fs) c cs u (fun v j=>k v (by simp[j])) (by omega);refine⟨(show Val (.pair a b) from(x,y)),⟨_,_,?_,s,o⟩,q,m⟩;rw[<-List.drop_drop,List.take_append_drop]
def xo:∀n,aef enc P w sp held n/\Mp enc P w sp held n
 |0=>⟨fun τ t b cs d ps h _=>by simp[akf] at h,fun τ off fs b cs h _ _=>by simp[fieldsAre] at h⟩
 |n+1=>⟨agu (xo n).1 (xo n).2,abE (xo n).1 (xo n).2⟩
def aco {n:Nat} {τ:Ty} {t:TypeId} {v:Value} {d:DataW H} {ps:rT MemPlace} {r:Reach} {base:Nat} (e:akf P n τ t=true) (h:DataW.Trod enc P w 0 sp held t v d ps) (c:Value.okWide P w r base t v):∃x:Val τ,θ w anJ τ x v/\Rng τ x:=by
 obtain⟨j,l⟩:=h;obtain⟨x,h1,h2⟩:=(xo n).1 τ t j _ d ps e l;refine⟨x,⟨_,h1,?_⟩,h2⟩
 cases n with
 |zero=>simp[akf] at e
 |succ n =>
  unfold akf at e;unfold Value.okWide at c
  split at e
  ·rename_i b;rw[b] at c
   cases τ<;>try (cases e; done)
   simp only[Cell.okWide,b] at c
   cases v<;>simp_all[Cell.ok,Value.cells,xj,Ty.isAgg]
  ·rename_i k b;rw[b] at c
   cases τ<;>try (cases e; done)
   simp only[Cell.okWide,b] at c
   cases v<;>simp_all[Cell.ok,Value.cells,xj,Ty.isAgg]
  ·rename_i b;rw[b] at c
   cases τ<;>try (cases e; done)
   simp only[Cell.okWide,b] at c
   cases v<;>simp_all[Cell.ok,Value.cells,xj,Ty.isAgg]
  ·rename_i m b;rw[b] at c
   cases τ<;>try (cases e; done)
   simp only[Cell.okWide,b] at c
   cases v<;>simp_all[Cell.ok,Value.cells,xj,Ty.isAgg]
  ·rename_i fs b;rw[b] at c;obtain⟨cs,rfl,_,_⟩:=c;simp only[dt] at e;have i:τ.isAgg=true:=e.2.1;simp[xj,i,Value.cells]
  ·cases e
def Bn (P:Program):rT Ty->rT TypeId->Bool
 |[],[]=>true
 |τ::l,t::ts=>akf P 40 τ t&&Bn P l ts
 |_,_=>false
def acp {r:Reach} {base:Nat}:∀(l:rT Ty) (τ:Ty) (t:TypeId) (ts:rT TypeId) (v:Value) (vs:rT Value) (k:rT (DataW H)) (ps:rT MemPlace),Bn P (τ::l) (t::ts)=true->DataW.TrodAll enc P w 0 sp held (t::ts) (v::vs) k ps ->
 (∀(j:Nat) t' e,(t::ts)[j]?=some t'->(v::vs)[j]?=some e->Value.okWide P w r base t' e)->∃x:Val (tys τ l),AT w anJ l τ x (v::vs)/\Rng (tys τ l) x
 |l,τ,t,ts,v,vs,[],ps,_,h,_=>by cases h
 |[],τ,t,ts,v,vs,d::k,ps,c,h,i=>by
  obtain⟨p,q,h1,h2,_⟩:=h;simp only[Bn,dt] at c
  have:ts=[]:=by cases ts with|nil=>rfl|cons=>simp[Bn] at c
  subst this
  have m:vs=[]:=by cases vs with|nil=>rfl|cons=>exact h2.elim
  subst m;obtain⟨x,o,n⟩:=aco c.1 h1 (i 0 t v rfl rfl);exact⟨x,⟨v,rfl,o⟩,n⟩
 |u::l,τ,t,ts,v,vs,d::k,ps,c,h,i=>by
  obtain⟨p,q,h1,h2,_⟩:=h;simp only[Bn,dt] at c;obtain⟨x,o,n⟩:=aco c.1 h1 (i 0 t v rfl rfl);rcases ts with _|⟨t2,ts⟩
  ·simp[Bn] at c
  ·rcases vs with _|⟨s,vs⟩
   ·exact h2.elim
   ·obtain⟨y,A,z⟩:=acp l u t2 ts s vs k q c.2 h2 fun j t' e a b=>i (j+1) t' e (by simpa using a) (by simpa using b);exact⟨(show Val (.pair τ (tys u l)) from(x,y)),⟨v,s::vs,rfl,o,A⟩,n,z⟩
def aks {r:Reach} {base:Nat} {l:rT Ty} {ts:rT TypeId} {vs:rT Value} {b:rT (DataW H)} {ps:rT MemPlace} (d:Bn P l ts=true) (h:DataW.TrodAll enc P w 0 sp held ts vs b ps)
 (i:∀(j:Nat) t' e,ts[j]?=some t'->vs[j]?=some e->Value.okWide P w r base t' e):∃x:Val (tyL l),AL w anJ l x vs/\Rng (tyL l) x:=by
 rcases l with _|⟨τ,l⟩
 ·have:ts=[]:=by cases ts with|nil=>rfl|cons=>simp[Bn] at d
  subst this
  have c:vs=[]:=by cases vs with|nil=>rfl|cons=>cases b<;>exact h.elim
  exact⟨(show Val .unit from()),c,trivial⟩
 ·rcases ts with _|⟨t,ts⟩
  ·simp[Bn] at d
  ·rcases vs with _|⟨v,vs⟩
   ·cases b<;>exact h.elim
   ·exact acp l τ t ts v vs b ps d h i
def Ek (k:laidOutB P=true) {W l:World} (hb:Below W.heap.size W l):∀{ts:rT TypeId} {vs:rT Value} {j:rT (DataW H)} {ps:rT MemPlace},(ts.all fun t=>P.readableRec t&&decide (t<P.types.size))=true->DataW.TrodAll enc P W 0 (fun _=>true) true ts vs j ps->(∀x∈ps,x.block<W.heap.size) ->
 DataW.TrodAll enc P l 0 (fun b=>decide (b<W.heap.size)) true ts vs j ps
 |[],[],[],ps,_,h,_=>h
 |t::ts,v::vs,d::j,ps,e,h,c=>by
  obtain⟨p,q,h1,h2,rfl⟩:=h;simp only[fX,dt,decide_eq_true_eq] at e;exact⟨p,q,Below.trod k e.1.1 e.1.2 h1 hb (fun x i=>c x (eZ _ i)),Ek k hb (by simpa using e.2) h2 (fun x i=>c x (d8 _ i)),rfl⟩
 |[],[],_::_,_,_,h,_=>h.elim
 |[],_::_,_,_,_,h,_=>by cases ‹rT (DataW H)›<;>exact h.elim
 |_::_,[],_,_,_,h,_=>by cases ‹rT (DataW H)›<;>exact h.elim
 |_::_,_::_,[],_,_,h,_=>h.elim
def Mv {W:World}:∀{ts:rT TypeId} {vs:rT Value} {b:rT (DataW H)} {ps:rT MemPlace},DataW.TrodAll enc P W 0 sp held ts vs b ps->b.length=ts.length
 |[],[],[],_,_=>rfl
 |_::_,_::_,_::_,_,h=>by obtain⟨p,q,_,h2,_⟩:=h; simp[Mv h2]
 |[],[],_::_,_,h=>h.elim
 |[],_::_,b,_,h=>by cases b<;>exact h.elim
 |_::_,[],b,_,h=>by cases b<;>exact h.elim
 |_::_,_::_,[],_,h=>h.elim
end
def joined_of {P:Program} {f:FuncId} {fn:Func} {s:ChangeSpec} {c:OpenClaim} (h1:c.wf (OpenSpec.ofChange s)=true) (h2:laidOutB P=true) (U:mapsRowed P=true) (T:fn.params.all (P.readableRec ·)=true) (S:namedTie P c.named s.vars=true)
 (R:(c.stops==[])=true) (O:(P.stops==[])=true) (N:(c.knobs==[])=true) (L:(P.stopKnobs==[])=true) (K:(c.inPlace==P.inPlace f)=true) (J:(c.unfollowed==P.unfollowed f)=true) (I:(c.recurses==P.recurses f)=true) (G:(c.named==P.varsNamed f)=true)
 (F:(c.maps==(fn.params.toList++s.plain.varTypes P).any (P.mapsRec ·))=true) (E:(c.ifaces==(fn.params.toList++s.plain.varTypes P).any (P.ifacesRec ·))=true) (C:(c.mapsOut==P.mapsAmong fn.resultTypes.toList)=true)
 (B:(c.loops==(fn.params.toList++s.plain.varTypes P).any (P.loopsFrom ·))=true) (A:(c.wideKeys==(fn.params.toList++s.plain.varTypes P++fn.resultTypes.toList).any (P.wideKeysFrom ·))=true)
 (z:s.vars.all (P.varReadable ·)=true) (y:fn.resultTypes.all (fun t=>P.readableRec t&&decide (t<P.types.size))=true) (v:(c.ifacesOut==fn.resultTypes.toList.any (P.ifacesRec ·))=true) (u:(c.loopsOut==fn.resultTypes.toList.any (P.loopsFrom ·))=true)
 (q:(c.plainKeys==P.plainKeys)=true) (o:c.shortTexts.isNone=true) (n:P.stopsHeard=true) (m:P.mayEnter=true) (l:(c.lifted==P.liftsFinal)=true) (j:(P.make==some c.make)=true)
 (i:(c.kinds==(if c.domain.isEmpty then[] else fn.params.toList.map fun t=>match P.underlying t with|some (.int k)=>some k|_=>none))=true) (e:(c.pinned==c.pinnedBy)=true)
 (d:(c.veiled==(fn.params.toList++s.plain.varTypes P++fn.resultTypes.toList).any (P.veiledRec ·))=true) (b:c.veiledFits P fn.params.toList (fn.params.toList++s.plain.varTypes P++fn.resultTypes.toList)=true):joinedFacts P f fn s c=true:=by
 unfold joinedFacts;simp only[h1,h2,U,T,S,R,O,N,L,K,J,I,G,F,E,C,B,A,z,y,v,u,q,o,n,m,l,j,e,d,b,Bool.and_true];exact i
end Go.Am
end

noncomputable section
namespace Go.Am
open Go.ChangeShapes Go.WideShapes Go.ChangeAt Go.RowKit
section
variable {H:Type} {enc:TypeId×Value->H}
def law_laid [Globs] {C:Checked} {os:Os} {f:FuncId} {fn:Func} {sp:ChangeSpec} {F:Stop.Interp} {l:rT PathCond} {p:ì} {tb:TypeId} {k:rT (String×DataW Unit)}
 (L:∀W:World,laidMetH C.prog k W->W.ShapedOpen C.prog->Globs.Φ W)
 (own:ownKnob C.prog.godebug=none) (d:os.Started) (m:C.prog.inits.idxOf? f=none) (T:C.prog.funcs[f]?=some fn)
 (c:∃(w:World) (tape:Tape) (i:Input),w.os=os/\(w.forCall tape i).Shaped C.prog/\i.vars=[]/\Input.okWide C.prog (w.forCall tape i) .any w.heap.size f i /\
  (OpenSpec.ofChange sp).preRow enc C.prog fn l false k (w.forCall tape i).memory i.args/\({}:Assume).holds C.prog (lone (Frame.enter C.prog f i.args .normal) [] (w.forCall tape i)))
 (hp:Ķ C.prog f p) (o:p.rs=[.bool]) (law:∀x:Val (tyL p.ts),Rng (tyL p.ts) x->p.F x=some (o▸(show Val (tyL [.bool]) from true))) (E:Bn C.prog p.ts fn.params.toList=true) (G:sp.vars=[])
 (hs:∀b:rT (DataW H),b.length=fn.params.toList.length->sp.fn H b={results:=[.lit (.bool true)],args:=b}) (hl:laidOutB C.prog=true) (O:(fn.params.toList.all fun t=>C.prog.readableRec t&&decide (t<C.prog.types.size))=true)
 (I:fn.resultTypes=#[tb]) (z:C.prog.underlying tb=some .bool) :
 ReturnsInHanded {} C os f .any ((OpenSpec.ofChange sp).preRow enc C.prog fn l false k) (((OpenSpec.ofChange sp).at F).post enc C.prog fn false true false false):=by
 refine returnsInHanded_of_row (s:=OpenSpec.ofChange sp) own d m T c ?_;intro W base args b Y J B X _ _ _ hL N _;have A:=X;obtain⟨K,q,V,U,rfl,_,_⟩:=X
 have S:Y=[]/\q=[]:=by
  rw[show(OpenSpec.ofChange sp).vars=sp.vars from rfl,G] at U
  cases Y with
  |nil=>exact⟨rfl,U⟩
  |cons=>exact U.elim
 obtain⟨rfl,rfl⟩:=S;obtain⟨x,h1,h2⟩:=aks E V (r:=.any) (base:=base) fun j t v ht hv=>B j t v (by simpa using ht) (by simpa using hv);simp only[dO] at A
 have R:∀x∈K,x.block<W.heap.size:=fun x hx=>by simpa using A.lt x hx
 refine(callsIn_wide (n:=0)).1 ((hp anJ x _ (law x h2) W args.toList (fun _ h=>h.elim) (L W hL N) h1).2.mono fun e W' hw=>?_);obtain⟨u,rfl,k1,k2,k3,k4,k5,Z⟩:=hw
 have hu:u=.bool true:=by
  obtain⟨ts,rs,F⟩:=p;dsimp only at o k1;subst o;obtain⟨us,c1,rfl⟩:=k1;have:us=[.bool true]:=c1;rw[this]; rfl
 subst hu;have hb:Below W.heap.size W W':=⟨k4,k5,Z,k3,k2⟩
 have y:sp.fn H (b++[])={results:=[.lit (.bool true)],args:=b}:=by rw[dO]; exact hs b (Mv V)
 refine⟨_,rfl,b,[],K,[],K,[],A,?_,?_,?_,hb.frame _,fun h=>by cases h⟩
 ·show DataW.TrodAll _ _ _ _ _ _ _ _ (sp.fn H (b++[])).results _;rw[y,I];exact trodAll_mk1 (shut_bool z _)
 ·show DataW.TrodAll _ _ _ _ _ _ _ _ (sp.fn H (b++[])).args _;rw[y];exact Ek hl hb O V R
 ·have e1:((OpenSpec.ofChange sp).at F).fn H (b++[])={results:=[.lit (.bool true)],args:=b}:=y;have e2:((OpenSpec.ofChange sp).at F).vars=[]:=G;rw[e1,e2]; rfl
def witness_laid {C:Checked} {os:Os} {f:FuncId} {fn:Func} {sp:ChangeSpec} {c:rT PathCond} {b:rT (String×DataW Unit)} (args:Array Value)
 (l:((World.laidAll C.prog os b).forCall (fun _ _=>0) ⟨#[],args,[]⟩).variablesZipB C.prog=true)
 (k:(((World.laidAll C.prog os b).forCall (fun _ _=>0) ⟨#[],args,[]⟩).heap.toList.drop C.prog.globals.size).take ((begin C.prog (fun _ _=>0) default).world.heap.size-C.prog.globals.size)=(begin C.prog (fun _ _=>0) default).world.heap.toList.drop C.prog.globals.size)
 (j:Input.okWideB C.prog ((World.laidAll C.prog os b).forCall (fun _ _=>0) ⟨#[],args,[]⟩) f ⟨#[],args,[]⟩=true)
 (d:sp.preB enc C.prog fn c false ((World.laidAll C.prog os b).forCall (fun _ _=>0) ⟨#[],args,[]⟩).memory args 8=true)
 (e:sp.sizedB enc C.prog fn false ((World.laidAll C.prog os b).forCall (fun _ _=>0) ⟨#[],args,[]⟩).memory args 8=true)
 (m:(b.all fun x=>x.2.handleName?.isNone)=true)
 (n:(World.holding C.prog os ⟨#[],#[],[]⟩).layFits C.prog b []=true)
 (hi:(World.holding C.prog os ⟨#[],#[],[]⟩).layIfaces C.prog b (World.laidAll C.prog os b)=true) :
 ∃(w:World) (tape:Tape) (i:Input),w.os=os/\(w.forCall tape i).Shaped C.prog/\i.vars=[]/\Input.okWide C.prog (w.forCall tape i) .any w.heap.size f i /\
  (OpenSpec.ofChange sp).preRow enc C.prog fn c false b (w.forCall tape i).memory i.args/\({}:Assume).holds C.prog (lone (Frame.enter C.prog f i.args .normal) [] (w.forCall tape i)) :=
 ChangeSpec.witness_shaped (enc:=enc) (X:=fun w _=>laidMetH C.prog b w) false (World.laidAll C.prog os b) args 8 (World.laidAll_os _ _ _) (World.shaped_of_ZipB l k) j d e
  (by rw[MakeChecks.laidMetH_plain _ _ _ m]; exact laidMet_laidAll _ n hi)
def shaped_int {P:Program} {W:World} (o:W.ShapedOpen P) {g:Nat} {t t':TypeId} {zero:Array Value} {k:IntKind} (q:g<P.globals.size) (j:((begin P (fun _ _=>0) default).world.heap[g]?).bind Obj.row?=some (zero,t)) (z:zero.size=1) (hb:P.buildable t=true)
 (v:P.cellTypes P.depth t=some [t']) (n:P.underlying t'=some (.int k)):∃m,W.cell? ⟨g,0,none⟩=some (.int k m):=by
 obtain⟨cs,h1,h2,y⟩:=o.1 g zero t q j;obtain⟨ts,d,_,i⟩:=y hb;rw[v] at d; cases d
 have c:0<cs.size:=by omega
 obtain⟨u,e,b⟩:=i 0 cs[0] (Array.getElem?_eq_getElem c);cases e;unfold Cell.ok at b;rw[n] at b
 have l:W.cell? ⟨g,0,none⟩=some cs[0]:=by simp[World.cell?,h1,c]
 rw[l]
 split at b<;>first|(cases ‹some (TypeDesc.int _)=_›; rename_i s; obtain⟨rfl,_⟩:=b; rw[s]; exact⟨_,rfl⟩)|(simp_all; done)|cases b
def shaped_cel {P:Program} {W:World} (i:W.ShapedOpen P) (ha:((List.range P.globals.size).all fun g=>(((begin P (fun _ _=>0) default).world.heap[g]?).bind Obj.row?).isSome)=true) (b:Nat) (hb:b<P.globals.size):∃c e r,W.heap[b]?=some (.cells c e r):=by
 have:=dM.1 ha b (List.mem_range.2 hb);obtain⟨⟨zero,t⟩,d⟩:=fZ.1 this;obtain⟨cs,h1,_⟩:=i.1 b zero t hb d;exact⟨_,_,_,h1⟩
def laid_iface {P:Program} {W:World} {b n:String} {d:DataW Unit} {g ti:Nat} {ms:Array (String×TypeId)} (h:laidMet P [(b,.iface n d)] W) (e:P.globalNamed b=some g) (c:(P.globals[g]?).map (·.type)=some ti) (hi:P.underlying ti=some (.interface ms)) :
 ∃ev,W.cell? ⟨g,0,none⟩=some ev/\(ev=.nilIface\/∃l m,ev=.iface l m):=by
 obtain⟨ps,⟨g',t,cs,i,p,q,k,j,y,s,_,_⟩,_⟩:=h;rw[e] at k; cases k;rw[c] at j; cases j;obtain⟨_,u,v,o,_,_⟩:=iface_of_trod hi s;refine⟨.iface u v,?_,.inr ⟨u,v,rfl⟩⟩;rw[World.var?_cell e y 0,<-fW,o]; rfl
end
end Go.Am
end

noncomputable section
namespace Go.Am
open Go.RowKit
section
variable [Globs] {P:Program} {f:Nat} {p:ì}
def jd (hb:∃fn c,P.funcs[f]?=some fn/\fn.body=some c) (h:∀(G:Nat->Prop) (x:Val (tyL p.ts)) (y:Val (tyL p.rs)),p.F x=some y->∀(w:World) (vals:rT Value),(∀b,G b->b<w.heap.size)->Globs.Φ w->AL w G p.ts x vals ->
 Calls P f vals.toArray w fun e w'=>∃u,e=.returned u/\RR w' G p.rs y u/\Below w.heap.size w w'):Ķ P f p:=by
 intro G x y l w vals k d i;refine⟨hb,(callsIn_wide (n:=0)).2 ((h G x y l w vals k d i).mono fun e w' j=>?_)⟩;obtain⟨u,rfl,h1,h2⟩:=j;exact⟨u,rfl,h1,fun b hb=>h2.block b hb,h2.size,h2.os,h2.tape,h2.output⟩
end
def zR {w:World} {G:Nat->Prop} {s:ByteArray} {v:Value} (h:θ w G .str s v):v=.string s:=by
 obtain⟨us,h1,rfl⟩:=h;have:us=[.string s]:=h1;rw[this]; rfl
def ajP {w:World} {G:Nat->Prop} {k:IntKind} {n:Int} {v:Value} (h:θ w G (.int k) n v):v=.int k n:=by
 obtain⟨us,h1,rfl⟩:=h;have:us=[.int k n]:=h1;rw[this]; rfl
def U6 {w:World} {G:Nat->Prop} (s:ByteArray):θ w G .str s (.string s):=⟨[.string s],rfl,rfl⟩
def int_arg {w:World} {G:Nat->Prop} (k:IntKind) (n:Int):θ w G (.int k) n (.int k n):=⟨[.int k n],rfl,rfl⟩
def aku {w:World} {G:Nat->Prop} {b:Nat} {xs:rT ByteArray} {cs:Array Value} {e:TypeId} (hb:w.heap[b]?=some (.cells cs e (0,0))) (l:¬G b) (k:cs=(xs.map Value.string).toArray):θ w G (.slice .str) xs (.slice (some ⟨b,0,none⟩) xs.length xs.length):=by
 refine⟨[_],⟨some ⟨b,0,none⟩,xs.length,rfl,du _,.inr ⟨b,0,rfl,l,å hb,fun i x d=>⟨[.string x],rfl,fun j v c=>?_⟩⟩⟩,rfl⟩
 cases j with
 |succ j=>simp at c
 |zero =>
  simp only[fi,Option.some.injEq] at c;subst c
  have hi:cs[i]?=some (.string x):=by rw[k]; simp[eY,d]
  unfold World.cell?
  simp[hb,Ty.size,hi]
def al6 {w:World} {G:Nat->Prop} {xs:rT ByteArray} {v:Value} (h:θ w G (.slice .str) xs v):∃base cap,v=.slice base xs.length cap/\xs.length<=cap/\(xs=[]\/∃b o,base=some ⟨b,o,none⟩/\b<w.heap.size/\∀(j:Nat) (x:ByteArray),xs[j]?=some x->w.cell? ⟨b,o+j,none⟩=some (.string x)):=by
 obtain⟨us,⟨base,cap,e,l,h1⟩,rfl⟩:=h;refine⟨base,cap,?_,l,?_⟩
 ·rw[e]; rfl
 ·rcases h1 with h1|⟨b,off,hb,_,c,h2⟩
  ·exact .inl h1
  ·refine .inr ⟨b,off,hb,c,fun j x k=>?_⟩;obtain⟨us,i,d⟩:=h2 j x k;have:us=[.string x]:=i;subst this;have:=d 0 (.string x) (by simp);simpa[Ty.size] using this
end Go.Am
end

noncomputable section
namespace Go.Am
abbrev ilt (a b:Int):Bool:=decide (a<b)
abbrev ile (a b:Int):Bool:=decide (a<=b)
abbrev igt (a b:Int):Bool:=decide (a>b)
abbrev ige (a b:Int):Bool:=decide (a>=b)
abbrev ieq (a b:Int):Bool:=a==b
abbrev ine (a b:Int):Bool:=a != b
abbrev iK (a b:Int):Bool:=decide (a=b)
abbrev Ó {α:Type} (l:rT α):Int:=HC l.length
abbrev ê {α:Type} (l:rT α):Int:=(l.length:Int)
section
variable {ρ:Type}
def ck (n:Int) (f:Int->rF ρ):rF ρ:=f (agq n)
def Þ {α:Type} (l:rT α) (i:Int) (f:α->rF ρ):rF ρ :=
 match decide (0<=i) with
 |true=>match l[i.toNat]? with
  |some e=>f e
  |none=>none
 |false=>none
def ě {α:Type} (l:rT α) (i:Nat) (f:α->rF ρ):rF ρ :=
 match l[i]? with
 |some e=>f e
 |none=>none
def Zr {k v:Ty} (x:Val k) (l:rT (Val k×Val v)) (f:Val v->rF ρ) (g:rF ρ):rF ρ :=
 match wZ x l with
 |some y=>f y
 |none=>g
def Ô (b:Bool) (x:rF ρ):rF ρ:=match b with|true=>x|false=>none
def Xw (s:ByteArray) (i:Int) (f:Int->rF ρ):rF ρ :=
 match decide (0<=i) with
 |true=>match s[i.toNat]? with
  |some b=>f b.toNat
  |none=>none
 |false=>none
def ifb (b:Bool) (x y:rF ρ):rF ρ:=match b with|true=>x|false=>y
def XE (x:rF (rT Int)) (f:Int->rF ρ) (n:rF ρ):rF ρ :=
 Â x fun l=>match l.find? (fun e=>e != 0) with
  |some e=>f e
  |none=>n
def M6 {α β:Type} (f:α->rF β):rT α->rF (rT β)
 |[]=>some []
 |a::l=>match f a with
  |some b=>match M6 f l with
   |some m=>some (b::m)
   |none=>none
  |none=>none
def xl (n:Nat):rT Int:=(List.range n).map fun(i:Nat)=>(i:Int)
end
end Go.Am
end

noncomputable section
namespace Go.Am
open Go
def i64B (n:Int):Bool:=decide (-9223372036854775808<=n)&&decide (n<=9223372036854775807)
def aiq (n:Int):rF ByteArray:=if i64B n then some ⟨(Lib.itoa n).toArray⟩ else none
def agw (s p:ByteArray):rF ByteArray:=if s.size<=9223372036854775807 then some ⟨(Lib.trimSuffix s.data.toList p.data.toList).toArray⟩ else none
def indexF (s:ByteArray) (c:Int):rF Int:=some (Lib.indexByte s.data.toList c.toNat.toUInt8)
def Bp (s b:ByteArray):rF (rT ByteArray):=if decide (s.size<4294967281)&&decide (1<=b.size) then some (Lib.splitB b 0 (Lib.countB s b) s) else none
def aio (xs:rT ByteArray) (b:ByteArray):rF ByteArray:=if decide (xs.length<=140737488355328)&&decide ((Lib.join (xs.map (·.data.toList)) b.data.toList).length<=140737488355328) then some ⟨(Lib.join (xs.map (·.data.toList)) b.data.toList).toArray⟩ else none
def ab7 (s:ByteArray):rF (Int×Bool):=match decide (s.size<=281474976710656) with
 |true=>some (match Lib.atoiAll s.data.toList with
  |.ok v=>(v,false)
  |.range=>(Lib.atoiSat s.data.toList,true)
  |_=>(0,true))
 |false=>none
def jV:=aiq
def Η:=agw
def qv:=Bp
def sX:=aio
def HJ (s sub:ByteArray):rF Int:=if s.size<4294967281 then some (Lib.index s.data.toList sub.data.toList) else none
def zG:=HJ
def ow:Nat->ByteArray->rT ByteArray
 |0,_=>[]
 |n+1,s=>if s.size=0 then[] else if 0<=Lib.indexByte s.data.toList 10 then s.extract 0 (Lib.indexByte s.data.toList 10+1).toNat::ow n (s.extract (Lib.indexByte s.data.toList 10+1).toNat s.size) else[s]
def kO (s:ByteArray):rT ByteArray:=ow s.size s
section
variable {ρ:Type}
def outX {α β:Type} (c:α->rF ρ) (b:β->rF ρ):Sum α β->rF ρ
 |.inl v=>c v
 |.inr z=>b z
def aaz {α β γ:Type} (f:α->β->(α->rF ρ)->(γ->rF ρ)->rF ρ):rT β->α->(α->rF ρ)->(γ->rF ρ)->rF ρ
 |[],v,kn,_=>kn v
 |y::ys,v,kn,kx=>f v y (fun v=>aaz f ys v kn kx) kx
def runX {α β γ:Type} (f:α->β->rF (Sum α γ)) (ys:rT β) (v:α) (c:α->rF ρ) (b:γ->rF ρ):rF ρ:=aaz (fun v y c b=>Â (f v y) (outX c b)) ys v c b
def agM {α β γ:Type} (f:α->β->rF (Sum α γ)) (y:β) (ys:rT β) (v:α) (c:α->rF ρ) (b:γ->rF ρ):runX f (y::ys) v c b=Â (f v y) (outX (fun v=>runX f ys v c b) b):=rfl
end
section
variable {ρ:Type} {σ:Type}
def ak0 {α:Type} (x:α) (k:α->rF σ):Â (some x) k=k x:=rfl
def ak4 {α:Type} (x:rF α) (f:α->rF ρ) (k:ρ->rF σ):Â (Â x f) k=Â x fun a=>Â (f a) k:=by cases x<;>rfl
def ano (b:Bool) (x y:rF ρ) (k:ρ->rF σ):Â (ifb b x y) k=ifb b (Â x k) (Â y k):=by cases b<;>rfl
def ann (b:Bool) (x:rF ρ) (k:ρ->rF σ):Â (Ô b x) k=Ô b (Â x k):=by cases b<;>rfl
def ak3 {α:Type} (l:rT α) (i:Int) (f:α->rF ρ) (k:ρ->rF σ):Â (Þ l i f) k=Þ l i fun a=>Â (f a) k:=by
 unfold Þ; cases decide (0<=i)
 ·rfl
 ·cases l[i.toNat]?<;>rfl
def ak2 {α:Type} (l:rT α) (i:Nat) (f:α->rF ρ) (k:ρ->rF σ):Â (ě l i f) k=ě l i fun a=>Â (f a) k:=by
 unfold ě; cases l[i]?<;>rfl
def ak1 (s:ByteArray) (i:Int) (f:Int->rF ρ) (k:ρ->rF σ):Â (Xw s i f) k=Xw s i fun a=>Â (f a) k:=by
 unfold Xw; cases decide (0<=i)
 ·rfl
 ·cases s[i.toNat]?<;>rfl
def nat_ck (n:Int) (f:Int->rF ρ) (k:ρ->rF σ):Â (ck n f) k=ck n fun a=>Â (f a) k:=rfl
end
end Go.Am
end

noncomputable section
namespace Go.Am
variable [Globs]
structure agm where
 ty:Ty
 ts:rT Ty
 clo:Nat
 mt:Ty
 F:rT (Val ty)->Val (tyL ts)->Val mt->rF (rT (Val ty)×Val mt)
def act:rT AV->rF (rT AV×AV)
 |[]=>none
 |[a]=>some ([],a)
 |a::l=>match act l with
  |some (m,b)=>some (a::m,b)
  |none=>none
section
variable {ρ:Type}
def rowX (r:agm) (h:rT Blk) (b:rT AV) (K:AV->rT Blk->rF ρ):rF ρ :=
 match b with
 |.own id g::as=>match act as with
  |some (ds,.fn (.func c) [] [.box bid 0])=>match Nat.beq c r.clo&&!Nat.beq id bid with
   |true=>match lkB h id with
    |.row t g' false xs=>match g==g' with
     |true=>match decEq t r.ty with
      |isTrue e=>match lkB h bid with
       |.cells cs=>match cs.all fun a=>!Ee a with
        |true=>match Ec h r.ts ds with
         |some x=>match (abK r.ts x).all plain with
          |true=>match Ü r.mt cs with
           |some m=>Â (r.F (uQ (F:=fun t=>rT (Val t)) e xs) x m) fun z=>K (.tup []) (î (î h id (.row r.ty g' false z.1)) bid (.cells (flat r.mt z.2)))
           |none=>none
          |false=>none
         |none=>none
        |false=>none
       |_=>none
      |isFalse _=>none
     |false=>none
    |_=>none
   |false=>none
  |_=>none
 |_=>none
def C9 (r:agm) (x:Val (tyL r.ts)):rT AV:=.own 0 0::(abK r.ts x++[.fn (.func r.clo) [] [.box 1 0]])
def jF (r:agm) (xs:rT (Val r.ty)) (m:Val r.mt):rT Blk:=[.row r.ty 0 false xs,.cells (flat r.mt m)]
def MF (r:agm) (K:rT (Val r.ty)->Val r.mt->rF ρ) (v:AV) (h:rT Blk):rF ρ :=
 match v with
 |.tup []=>match lkB h 0 with
  |.row t 0 false ys=>match decEq t r.ty with
   |isTrue e=>match lkB h 1 with
    |.cells cs=>match cs.all fun a=>!Ee a with
     |true=>match Ü r.mt cs with
      |some m=>K (uQ (F:=fun t=>rT (Val t)) e ys) m
      |none=>none
     |false=>none
    |_=>none
   |isFalse _=>none
  |_=>none
 |_=>none
end
structure amd (P:Program) (f:Nat) (r:agm):Prop where
 ok:∀(G:Nat->Prop) (xs:rT (Val r.ty)) (x:Val (tyL r.ts)) (m:Val r.mt) (ys:rT (Val r.ty)) (m2:Val r.mt),r.F xs x m=some (ys,m2) ->
 ∀(ν:Nat->Value) (w:World) (vals:rT Value),@HR _ (Gh G) ν (jF r xs m) w->ÿ (@VR _ (Gh G) ν (jF r xs m) w) (C9 r x) vals ->
  (∃fn c,P.funcs[f]?=some fn/\fn.body=some c)/\CallsIn Fence.wide 0 P f vals.toArray w fun e w'=>∃ν' h' v u,e=.returned u/\@VR _ (Gh G) ν' h' w' v u/\@HR _ (Gh G) ν' h' w'/\Ev 2 ν (jF r xs m) w ν' h' w'/\MF r (fun zs m'=>some (zs,m')) v h'=some (ys,m2)
def Va [LC] {f:Nat} {r:agm} (E:Env (rT (Val r.ty)×Val r.mt)) (b:∀[Ghost],Bm E) (hmix:E.P.follows .mixedOrders=true) {tab:rT (é (rT (Val r.ty)×Val r.mt))} (k:E.loops=Ε tab) (j:∀x∈tab,x.Ok E)
 (law:∀xs x m,su E (Ğ E 10) [] f (C9 r x) (jF r xs m) (MF r fun zs o=>some (zs,o))=r.F xs x m) (z:E.ranges=ő []:=by rfl):amd E.P f r:=by
 constructor;intro G xs x m ys K A ν w vals H d
 letI g:Ghost:=Gh G
 have l:=law xs x m;rw[A] at l;have hy:∀[Ghost],Γ E:=Bm.yld b;have hl:zX E:=L2 hmix k j z;have hall:∀n,n<=10->aej E n:=mG (fun _=>b) (fun L call k=>iZ hmix L call k) hl;have i:∀M,@jM _ (g.re g.G [] none M) _ E 2 (Ğ E 10):=fun M=>@hall 10 (du _) (g.re g.G [] none M) (@hy _);obtain⟨h1,h2⟩:=vQ i (fun M=>@iZ _ (g.re g.G [] none M) _ _ hmix _ _ (i M)) (path:=[]) rfl (fun M fn c s y=>@hl 10 (du _) (hall 10 (du _)) (g.re g.G [] none M) (@hy _) [] f fn c rfl s y) l H (dX _) d;refine⟨h1,h2.mono fun e w' q=>?_⟩;obtain⟨ν',h',v,u,rfl,J,I,C,O,N,B⟩:=q;exact⟨ν',h',v,u,rfl,J,I,C,B⟩
section
variable [Ghost] {ν ν':Nat->Value} {h h':rT Blk} {w w':World} {P:Program}
def upd2 (H:HR ν h w) {i j:Nat} {A B:Blk} {U V:Value} (O:i≠j) (hi:i<h.length) (hj:j<h.length) (hos:w'.os=w.os) (F:w'.tape=w.tape) (N:w'.output=w.output)
 (o:w.heap.size<=w'.heap.size)
 (y:∀b,b<w.heap.size->((lkB h i).live=true->¬Ĭ (ν i) b)->((lkB h j).live=true->¬Ĭ (ν j) b)->w'.heap[b]?=w.heap[b]?)
 (hU:A.live=true->∀b,Ĭ U b->((lkB h i).live=true/\Ĭ (ν i) b)\/((lkB h j).live=true/\Ĭ (ν j) b)\/w.heap.size<=b)
 (hV:B.live=true->∀b,Ĭ V b->((lkB h i).live=true/\Ĭ (ν i) b)\/((lkB h j).live=true/\Ĭ (ν j) b)\/w.heap.size<=b)
 (C:A.live=true->B.live=true->∀b,Ĭ U b->Ĭ V b->False)
 (hni:(lkB h i).next ν (ý (ý ν i U) j V) i A) (hnj:(lkB h j).next ν (ý (ý ν i U) j V) j B)
 (hbi:Ev h.length ν h w (ý (ý ν i U) j V) (î (î h i A) j B) w'->BR (ý (ý ν i U) j V) (î (î h i A) j B) w' i A)
 (hbj:Ev h.length ν h w (ý (ý ν i U) j V) (î (î h i A) j B) w'->BR (ý (ý ν i U) j V) (î (î h i A) j B) w' j B) :
 Ev h.length ν h w (ý (ý ν i U) j V) (î (î h i A) j B) w'/\HR (ý (ý ν i U) j V) (î (î h i A) j B) w':=by
 have L:lkB (î (î h i A) j B) i=A:=by rw[Ð _ O,ã _ hi]
 have K:lkB (î (î h i A) j B) j=B:=ã _ (by rw[Û]; exact hj)
 have lo:∀{m},m≠i->m≠j->lkB (î (î h i A) j B) m=lkB h m:=fun h1 h2=>by rw[Ð _ h2,Ð _ h1]
 have Y:ý (ý ν i U) j V i=U:=by rw[Ċ _ _ O,Õ]
 have X:ý (ý ν i U) j V j=V:=Õ _ _ _
 have E:∀{m},m≠i->m≠j->ý (ý ν i U) j V m=ν m:=fun h1 h2=>by rw[Ċ _ _ h2,Ċ _ _ h1]
 -- who owns a block now owned it, or it is new
 have own:∀m b,(lkB (î (î h i A) j B) m).live=true->Ĭ (ý (ý ν i U) j V m) b ->
  (∃q,(lkB h q).live=true/\Ĭ (ν q) b/\(q=m\/((q=i\/q=j)/\(m=i\/m=j))))\/(w.heap.size<=b/\(m=i\/m=j)):=by
  intro m b e hb
  by_cases h1:m=i
  ·subst h1;rw[L] at e; rw[Y] at hb;rcases hU e b hb with h2|h2|h2
   ·exact .inl ⟨m,h2.1,h2.2,.inl rfl⟩
   ·exact .inl ⟨j,h2.1,h2.2,.inr ⟨.inr rfl,.inl rfl⟩⟩
   ·exact .inr ⟨h2,.inl rfl⟩
  ·by_cases h2:m=j
   ·subst h2;rw[K] at e; rw[X] at hb;rcases hV e b hb with h2|h2|h2
    ·exact .inl ⟨i,h2.1,h2.2,.inr ⟨.inl rfl,.inr rfl⟩⟩
    ·exact .inl ⟨m,h2.1,h2.2,.inl rfl⟩
    ·exact .inr ⟨h2,.inr rfl⟩
   ·rw[lo h1 h2] at e; rw[E h1 h2] at hb;exact .inl ⟨m,e,hb,.inl rfl⟩
 have ev:Ev h.length ν h w (ý (ý ν i U) j V) (î (î h i A) j B) w':=by
  refine⟨hos,F,N,o,fun b hb l=>⟨y b hb (fun e R=>l ⟨i,e,R⟩) (fun e R=>l ⟨j,e,R⟩),?_⟩,fun m u=>?_⟩
  ·rintro⟨m,e,R⟩;rcases own m b e R with⟨q,h1,h2,_⟩|⟨h1,_⟩
   ·exact l ⟨q,h1,h2⟩
   ·omega
  ·by_cases h1:m=i
   ·subst h1; rw[L]; exact hni
   ·by_cases h2:m=j
    ·subst h2; rw[K]; exact hnj
    ·rw[lo h1 h2]
     cases hB:lkB h m with
     |dead=>trivial
     |cells cs=>exact⟨⟨cs,rfl⟩,E h1 h2⟩
     |row t g fz xs=>exact⟨g,fz,xs,rfl,du _,fun _=>⟨E h1 h2,rfl⟩⟩
     |map k v es=>exact⟨⟨es,rfl⟩,E h1 h2⟩
     |acc t xs=>exact⟨xs,rfl⟩
     |fns es=>exact⟨⟨es,rfl⟩,E h1 h2⟩
     |iter s q=>exact⟨⟨q,rfl⟩,E h1 h2⟩
 refine⟨ev,fun m=>?_,fun m n b u l d c=>?_,fun b hb=>dD (H.ghlt b hb) o,fun m b e hb hg=>?_,H.globE ev,H.globLE ev⟩
 ·by_cases h1:m=i
  ·subst h1; rw[L]; exact hbi ev
  ·by_cases h2:m=j
   ·subst h2; rw[K]; exact hbj ev
   ·rw[lo h1 h2];refine BR.ev ev (H.nd ev) (H.gl ev) (E h1 h2) (fun b e hb hlt=>y b hlt (fun G I=>h1 (H.inj m i b e G hb I)) (fun G I=>h2 (H.inj m j b e G hb I))) (H.blk m)
 ·-- one owner alone
  have hd:∀{m n b},(m=i\/m=j)->(n=i\/n=j)->(lkB (î (î h i A) j B) m).live=true->(lkB (î (î h i A) j B) n).live=true->Ĭ (ý (ý ν i U) j V m) b->Ĭ (ý (ý ν i U) j V n) b->m=n:=by
   intro m n b h1 h2 u l d c
   rcases h1 with rfl|rfl<;>rcases h2 with rfl|rfl
   ·rfl
   ·rw[L] at u; rw[K] at l; rw[Y] at d; rw[X] at c;exact(C u l b d c).elim
   ·rw[K] at u; rw[L] at l; rw[X] at d; rw[Y] at c;exact(C l u b c d).elim
   ·rfl
  rcases own m b u d with⟨q,h1,h2,W⟩|⟨h1,W⟩
  ·rcases own n b l c with⟨r,S,h5,z⟩|⟨S,z⟩
   ·have Z:=H.inj q r b h1 S h2 h5;subst Z;rcases W with rfl|⟨W,T⟩
    ·rcases z with rfl|⟨z,J⟩
     ·rfl
     ·exact hd z J u l d c
    ·rcases z with rfl|⟨z,J⟩
     ·exact hd T W u l d c
     ·exact hd T J u l d c
   ·have:=H.lt ⟨q,h1,h2⟩; omega
  ·rcases own n b l c with⟨r,S,h5,z⟩|⟨S,z⟩
   ·have:=H.lt ⟨r,S,h5⟩; omega
   ·exact hd W z u l d c
 ·rcases own m b e hb with⟨q,h1,h2,_⟩|⟨h1,_⟩
  ·exact H.ghne q b h1 h2 hg
  ·have:=H.ghlt b hg; omega
end
section
variable [Ghost] {ρ:Type} {ν:Nat->Value} {h:rT Blk} {w:World} {P:Program}
def My:∀{l m:rT AV} {b:AV},act l=some (m,b)->l=m++[b]
 |[],_,_,e=>by cases e
 |[a],_,_,e=>by cases e; rfl
 |a::c::l,m,b,e=>by
  simp only[act] at e
  split at e<;>try (cases e; done)
  rename_i d i h1;cases e;rw[My h1];rfl
def UE (H:HR ν h w) {cs:rT AV} (hd:(cs.all fun a=>!Ee a)=true) {us:rT Value} (c:ÿ (VRc ν h w) cs us):ÿ (VRs w (Av ν h)) cs us :=
 ÿ.mono (fun _ _ b=>VR1.data b.1) c
def AL.plainG {G c:Nat->Prop}:∀{l:rT Ty} {x:Val (tyL l)} {vs:rT Value},(abK l x).all plain=true->AL w G l x vs->AL w c l x vs
 |[],_,_,_,h=>h
 |_::_,_,_,b,h=>AT.plain b h
def anM {f:Nat} {r:agm} (hr:amd P f r):aau P f (rowX (ρ:=ρ) r):=by
 intro h args K res e ν w vals H S;unfold rowX at e
 split at e<;>try (cases e; done)
 rename_i id g as
 split at e<;>try (cases e; done)
 rename_i ds c bid hsp
 split at e<;>try (cases e; done)
 rename_i hcb;simp only[dt,eQ] at hcb;obtain rfl:=dF hcb.1
 have Z:id≠bid:=fun q=>by rw[q,Nat.beq_refl] at hcb; exact absurd hcb.2 (by simp)
 split at e<;>try (cases e; done)
 rename_i t g' xs hl
 split at e<;>try (cases e; done)
 rename_i hg
 obtain rfl:g=g':=by simpa using hg
 split at e<;>try (cases e; done)
 rename_i hty _;subst hty
 split at e<;>try (cases e; done)
 rename_i cs R
 split at e<;>try (cases e; done)
 rename_i hcs
 split at e<;>try (cases e; done)
 rename_i x hx
 split at e<;>try (cases e; done)
 rename_i hpl
 split at e<;>try (cases e; done)
 rename_i m hm;simp only[Â] at e
 split at e<;>try (cases e; done)
 rename_i z hys;obtain⟨ys,m2⟩:=z
 replace hys:r.F xs x m=some (ys,m2):=hys
 have has:=My hsp;subst has
 -- the arguments
 cases vals with
 |nil=>exact S.elim
 |cons u0 us =>
 obtain⟨hu0,hus⟩:=S;obtain⟨us1,us2,rfl,hds,hfn⟩:=hus.split;obtain⟨uf,rfl,huf⟩:=hfn.one
 have hu0':u0=ν id:=by
  obtain⟨_,t2,g2,fz2,xs2,hl2,_,hq⟩:=hu0;rw[hl] at hl2;cases hl2;exact hq rfl
 obtain⟨fs,cps,rfl,hfs,hcps⟩:=huf
 have d:(lkB h id).live=true:=by rw[hl]; rfl
 have l:(lkB h bid).live=true:=by rw[R]; rfl
 have hidl:id<h.length:=Ν hl (by simp);have hbl:bid<h.length:=Ν R (by simp);have hB:=H.blk id;rw[hl] at hB;have hC:=H.blk bid;rw[R] at hC
 -- the frame
 obtain⟨I,T⟩:∃I:Nat->Prop,I=fun b=>Av ν h b/\¬Ĭ (ν id) b/\¬Ĭ (ν bid) b:=⟨_,rfl⟩
 obtain⟨C,hν0⟩:∃C:Nat->Value,C=fun n=>if n=0 then ν id else if n=1 then ν bid else undef:=⟨_,rfl⟩
 have Y:C 0=ν id:=by rw[hν0]; rfl
 have X:C 1=ν bid:=by rw[hν0]; rfl
 have hAv:∀b,@Av _ (Gh I) C (jF r xs m) b->Av ν h b:=by
  rintro b (⟨i,hi,o⟩|hg)
  ·match i,hi,o with
   |0,_,o=>rw[Y] at o; exact .inl ⟨id,d,o⟩
   |1,_,o=>rw[X] at o; exact .inl ⟨bid,l,o⟩
   |i+2,hi,_=>cases hi
  ·have O:I b:=hg;rw[T] at O;exact O.1
 obtain⟨bb,cb,eb,hc1,hc2,hc3⟩:=hC;have hcr:CR w (Av ν h) r.mt m cb.toList:=ċ hm (UE H hcs hc3);have hx0:AL w (fun _=>False) r.ts x us1:=Hy H hds (fun a _ c _ u hu=>Xr H hu) (fun _ _ _ _ _ _=>⟨fun _ _ hf=>hf,fun c _ u hu=>Xr H hu⟩) hx;have hx1:AL w (@Av _ (Gh I) C (jF r xs m)) r.ts x us1:=AL.plainG hpl hx0
 have H0:@HR _ (Gh I) C (jF r xs m) w:=by
  refine @HR.mk _ (Gh I) _ _ _ (fun i=>?_) (fun i j b hi hj s L=>?_) (fun b hb=>?_) (fun i b hi s hg=>?_) H.glob (fun b hb ⟨i,hi,o⟩=>by
   match i,hi,o with
   |0,_,o=>rw[Y] at o; exact H.globL b hb ⟨id,d,o⟩
   |1,_,o=>rw[X] at o; exact H.globL b hb ⟨bid,l,o⟩
   |i+2,hi,_=>cases hi)
  ·match i with
   |0 =>
    obtain⟨base,cap,G,J,W⟩:=hB;refine⟨base,cap,Y.trans G,J,W.imp (fun z=>z) fun⟨b,off,c,e',q4,q5,q6,q7⟩=>⟨b,off,c,e',q4,q5,q6,fun i y hy=>?_⟩⟩;obtain⟨us,q8,q9⟩:=q7 i y hy;exact⟨us,CR.mono hAv q8,q9⟩
   |1=>exact⟨bb,cb,eb,X.trans hc1,hc2,@lX _ (Gh I) C (jF r xs m) w _ _ _ (CR.mono hAv hcr)⟩
   |i+2=>exact trivial
  ·match i,j,hi,hj,s,L with
   |0,0,_,_,_,_=>rfl
   |1,1,_,_,_,_=>rfl
   |0,1,_,_,s,L=>rw[Y] at s; rw[X] at L; exact absurd (H.inj id bid b d l s L) Z
   |1,0,_,_,s,L=>rw[X] at s; rw[Y] at L; exact absurd (H.inj id bid b d l L s) Z
   |i+2,_,hi,_,_,_=>cases hi
   |_,j+2,_,hj,_,_=>cases hj
  ·have hb':I b:=hb;rw[T] at hb';exact H.ltA hb'.1
  ·have O:I b:=hg;rw[T] at O
   match i,hi,s with
   |0,_,s=>rw[Y] at s; exact O.2.1 s
   |1,_,s=>rw[X] at s; exact O.2.2 s
   |i+2,hi,_=>cases hi
 have hargs0:ÿ (@VR _ (Gh I) C (jF r xs m) w) (C9 r x) (u0::(us1++[.func (.func r.clo) fs cps])):=by
  refine⟨⟨?_,r.ty,0,false,xs,rfl,du _,fun _=>hu0'.trans Y.symm⟩,(@AL.VR _ (Gh I) C (jF r xs m) w _ _ _ hx1).append ⟨⟨fs,cps,rfl,?_,?_⟩,trivial⟩⟩
  ·rw[hu0'];obtain⟨base,cap,G,_⟩:=hB;rw[G]; rfl
  ·rw[hfs.nil_left]; trivial
  ·obtain⟨uc,hu1,hu2⟩:=hcps.one;rw[hu1];refine⟨?_,trivial⟩;obtain⟨cs',b',G,J,W⟩:=hu2;exact⟨flat r.mt m,b',rfl,X.trans J,W⟩
 obtain⟨hbody,hcall⟩:=hr.ok I xs x m ys m2 hys C w _ H0 hargs0;refine⟨hbody,hcall.mono fun en w' hw=>?_⟩;obtain⟨ν',h',v,u,rfl,g1,g2,g3,N⟩:=hw
 -- what the run leaves
 unfold MF at N
 split at N<;>try (cases N; done)
 split at N<;>try (cases N; done)
 rename_i t' ys' hl0
 split at N<;>try (cases N; done)
 rename_i hty' _;subst hty'
 split at N<;>try (cases N; done)
 rename_i cs' hl1
 split at N<;>try (cases N; done)
 rename_i hcs'
 split at N<;>try (cases N; done)
 rename_i m' hm';cases N;have nx0:=g3.blk 0 (by omega);rw[show lkB (jF r xs m) 0=.row r.ty 0 false xs from rfl,hl0] at nx0;obtain⟨_,_,_,G,_,W⟩:=nx0;cases G;obtain⟨v0,hylen⟩:=W rfl;have nx1:=g3.blk 1 (by omega);rw[show lkB (jF r xs m) 1=.cells (flat r.mt m) from rfl] at nx1;have v1:ν' 1=ν bid:=nx1.2.trans X;rw[Y] at v0;have b0:=@HR.blk _ (Gh I) _ _ _ g2 0;rw[hl0] at b0;have b1:=@HR.blk _ (Gh I) _ _ _ g2 1;rw[hl1] at b1
 have lv0:(lkB h' 0).live=true:=by rw[hl0]; rfl
 have lv1:(lkB h' 1).live=true:=by rw[hl1]; rfl
 have E:∀k,ý (ý ν id (ν id)) bid (ν bid) k=ν k:=fun k=>by
  by_cases G:k=bid
  ·rw[G,Õ]
  ·rw[Ċ _ _ G]
   by_cases J:k=id
   ·rw[J,Õ]
   ·rw[Ċ _ _ J]
 have hAv':∀b,Av (ý (ý ν id (ν id)) bid (ν bid)) (î (î h id (.row r.ty g false ys')) bid (.cells (flat r.mt m2))) b->@Av _ (Gh I) ν' h' b:=by
  rintro b (⟨k,hk,o⟩|hg)
  ·rw[E] at o
   by_cases G:k=bid
   ·rw[G] at o;exact .inl ⟨1,lv1,by rw[v1]; exact o⟩
   ·rw[Ð _ G] at hk
    by_cases J:k=id
    ·rw[J] at o;exact .inl ⟨0,lv0,by rw[v0]; exact o⟩
    ·rw[Ð _ J] at hk;refine .inr ?_;show I b;rw[T];exact⟨.inl ⟨k,hk,o⟩,fun q=>J (H.inj k id b hk d o q),fun q=>G (H.inj k bid b hk l o q)⟩
  ·refine .inr ?_;show I b;rw[T];exact⟨.inr hg,fun q=>H.ghne id b d q hg,fun q=>H.ghne bid b l q hg⟩
 obtain⟨ev,hr2⟩:=upd2 (w':=w') (A:=.row r.ty g false ys') (B:=.cells (flat r.mt m2)) (U:=ν id) (V:=ν bid) H Z hidl hbl g3.os g3.tape g3.output g3.size
  (fun b hb G J=>(g3.keep b hb fun⟨i,hi,o⟩=>by
   match i,hi,o with
   |0,_,o=>rw[Y] at o; exact G d o
   |1,_,o=>rw[X] at o; exact J l o
   |i+2,hi,_=>cases hi).1)
  (fun _ b hb=>.inl ⟨d,hb⟩) (fun _ b hb=>.inr (.inl ⟨l,hb⟩)) (fun _ _ b h1 h2=>Z (H.inj id bid b d l h1 h2))
  (by rw[hl]; exact⟨g,false,ys',rfl,du _,fun _=>⟨E id,hylen⟩⟩)
  (by rw[R]; exact⟨⟨_,rfl⟩,E bid⟩)
  (fun ev=>by
   obtain⟨base,cap,G,J,W⟩:=b0;refine⟨base,cap,(E id).trans (v0.symm.trans G),J,W.imp (fun x=>x) fun⟨b,off,c,e',q4,q5,q6,q7⟩=>⟨b,off,c,e',q4,q5,q6,fun i y hy=>?_⟩⟩;obtain⟨us,q8,q9⟩:=q7 i y hy
   exact⟨us,CR.mono hAv' q8,q9⟩)
  (fun ev=>by
   obtain⟨b2,c2,e2,G,J,W⟩:=b1
   exact⟨b2,c2,e2,(E bid).trans (v1.symm.trans G),J,lX (CR.mono hAv' (ċ hm' (@UE _ (Gh I) _ _ _ g2 _ hcs' _ W)))⟩)
 refine⟨_,_,.tup [],u,rfl,?_,hr2,ev,by rw[Û,Û]; exact du _,fun j hj hd=>?_,e⟩
 ·obtain⟨vs,G,J⟩:=g1;exact⟨vs,G,by rw[J.nil_left]; trivial⟩
 ·have j1:j≠bid:=fun q=>by rw[q,R] at hd; cases hd
  have j2:j≠id:=fun q=>by rw[q,hl] at hd; cases hd
  rw[Ð _ j1,Ð _ j2];exact hd
end
def an6 {ρ:Type} (h:rT Blk) (b:rT AV) (K:AV->rT Blk->rF ρ):rF ρ :=
 match b with
 |[]=>none
 |a::l=>match l with
  |_::_=>none
  |[]=>match a with
   |.str s=>Â (ab7 s) fun r=>K (.tup [.int .i64 r.1,.ifc r.2]) h
   |_=>none
structure ake (P:Program) (f:Nat):Prop where
 body:∃fn c,P.funcs[f]?=some fn/\fn.body=some c
 ok:∀(w:World) (s:ByteArray) (r:Int×Bool),Globs.Φ w->ab7 s=some r->Calls P f #[.string s] w fun e w'=>∃u,e=.returned (.tuple #[.int .i64 r.1,u])/\u.oneCell'=true/\(r.2=false->u=.nilIface)/\(r.2=true->∃t x,u=.iface t x)/\RowKit.Below w.heap.size w w'
def alw [Ghost] {ρ:Type} {P:Program} {f:Nat} (k:ake P f):aau P f (an6 (ρ:=ρ)):=by
 intro h l K res e ν w vals H c;unfold an6 at e
 split at e<;>try (cases e; done)
 split at e<;>try (cases e; done)
 split at e<;>try (cases e; done)
 rename_i s;unfold Â at e
 split at e<;>try (cases e; done)
 rename_i r j;obtain⟨v,rfl,o⟩:=c.one;have i:v=.string s:=o;subst i;refine⟨k.body,(callsIn_wide (n:=0)).2 ((k.ok w s r H.glob j).mono fun y w' m=>?_)⟩;obtain⟨u,rfl,h0,h1,h2,d⟩:=m;obtain⟨ev,q⟩:=H.grow (fun b hb=>d.block b hb) d.size d.os d.tape d.output h.length;exact⟨ν,h,.tup [.int .i64 r.1,.ifc r.2],_,rfl,⟨#[.int .i64 r.1,u],rfl,rfl,⟨h0,h1,h2⟩,trivial⟩,q,ev,du _,fun _ _ hd=>hd,e⟩
def agD {ρ:Type} (h:rT Blk) (b:rT AV) (K:AV->rT Blk->rF ρ):rF ρ :=
 match b with
 |a::l=>match a,l with
  |.str s,[.str sep]=>Â (Bp s sep) fun y=>K (.own h.length 0) (î (h++List.replicate 1 .dead) h.length (.row .str 0 false y))
  |_,_=>none
 |_=>none
structure acd (P:Program) (f:Nat):Prop where
 body:∃fn c,P.funcs[f]?=some fn/\fn.body=some c
 ok:∀(w:World) (s sep:ByteArray) (y:rT ByteArray),Globs.Φ w->Bp s sep=some y->Calls P f #[.string s,.string sep] w fun e w'=>e=.returned (.slice (some ⟨w.heap.size,0,none⟩) y.length y.length)/\∃t,w'=w.alloc (.cells (y.map Value.string).toArray t)
def agy {w:World} {av:Nat->Prop}:∀y:rT ByteArray,zV w av .str y (y.map Value.string):=fun y=>⟨by simp[Ty.size],fun i x hi=>by
 have h1:(y.map Value.string)[i]?=some (.string x):=by
  have hi:(y:rT ByteArray)[i]?=some x:=hi;simp[hi]
 have h2:((y.map Value.string).drop (i*Ty.str.size)).take Ty.str.size=[.string x]:=by
  simp only[Ty.size,Nat.mul_one];rw[List.take_one,List.head?_drop,h1];rfl
 rw[h2]
 rfl⟩
def aiM [Ghost] {ρ:Type} {P:Program} {f:Nat} (z:acd P f):aau P f (agD (ρ:=ρ)):=by
 intro h C K res e ν w vals H i;unfold agD at e
 split at e<;>try (cases e; done)
 split at e<;>try (cases e; done)
 rename_i s l;unfold Â at e
 split at e<;>try (cases e; done)
 rename_i y E
 obtain⟨o,m,rfl,h1,h2⟩:∃o m,vals=[o,m]/\o=.string s/\m=.string l:=by
  match vals,i with
  |[a,b],k=>exact⟨a,b,rfl,k.1,k.2.1⟩
  |[_],k=>exact k.2.elim
  |_::_::_::_,k=>exact k.2.2.elim
 subst h1; subst h2;refine⟨z.body,(callsIn_wide (n:=0)).2 ((z.ok w s l y H.glob E).mono fun I w' F=>?_)⟩;obtain⟨rfl,t,rfl⟩:=F;have c:=PH h 1;have G:HR ν (h++List.replicate 1 .dead) w:=H.same c rfl rfl rfl rfl;have u:Ev h.length ν h w ν (h++List.replicate 1 .dead) w:=Ev.same c rfl rfl rfl rfl h.length
 have A:h.length<(h++List.replicate 1 Blk.dead).length:=by simp
 have hd:lkB (h++List.replicate 1 .dead) h.length=.dead:=by rw[c]; exact GG _ _ (du _)
 have d:=C8 (w':=w.alloc (.cells (y.map Value.string).toArray t)) G (id:=h.length) (g':=0) (t:=.str) (xs':=y) (cap':=y.length) (c':=(y.map Value.string).toArray) (e:=t) (news:=y.map Value.string) A
  (fun V=>by rw[hd]; trivial) rfl rfl rfl rfl (du _) (by simp[Ty.size]) (agy y) (fun j v B=>by simpa using B)
 refine⟨_,_,.own h.length 0,_,rfl,wn A rfl,d.2,u.trans d.1 (by simp),by rw[Û]; simp,fun j B q=>?_,e⟩;rw[Ð _ (by omega),c];exact q
inductive aaE where
 |row (r:agm)
 |atoi
 |split
def xK {ρ:Type}:aaE->rT Blk->rT AV->(AV->rT Blk->rF ρ)->rF ρ
 |.row r=>rowX r
 |.atoi=>an6
 |.split=>agD
def XOk (P:Program) (f:Nat):aaE->Prop
 |.row r=>amd P f r
 |.atoi=>ake P f
 |.split=>acd P f
def adJ:rT (Nat×aaE)->Nat->rF aaE
 |[],_=>none
 |e::l,f=>match Nat.beq e.1 f with
  |true=>some e.2
  |false=>adJ l f
def extT {ρ:Type} (xt:rT (Nat×aaE)) (f:Nat):rF (rT Blk->rT AV->(AV->rT Blk->rF ρ)->rF ρ) :=
 match adJ xt f with
 |some x=>some (xK x)
 |none=>none
def P5:∀{l:rT (Nat×aaE)} {f:Nat} {x:aaE},adJ l f=some x->(f,x)∈l
 |[],_,_,e=>by cases e
 |a::l,f,x,e=>by
  simp only[adJ] at e
  split at e
  ·rename_i h;cases e;obtain rfl:=dF h;exact .head _
  ·exact .tail _ (P5 e)
def ext_of [Ghost] {ρ:Type} {P:Program} {xt:rT (Nat×aaE)} (b:∀e∈xt,XOk P e.1 e.2):∀f X,extT (ρ:=ρ) xt f=some X->aau P f X:=by
 intro f X h;unfold extT at h
 split at h<;>try (cases h; done)
 rename_i x c;cases h;have:=b (f,x) (P5 c)
 cases x with
 |row r=>exact anM this
 |atoi=>exact alw this
 |split=>exact aiM this
def ke [Ghost] {ρ:Type} {E:Env ρ} (h:E.ext=fun _=>none):∀f X,E.ext f=some X->aau E.P f X:=fun f X e=>by rw[h] at e; cases e
def IU [Ghost] {ρ:Type} {P:Program} {E:Env ρ} {xt:rT (Nat×aaE)} (b:∀e∈xt,XOk P e.1 e.2) (h:E.ext=extT xt) (c:E.P=P:=by rfl):∀f X,E.ext f=some X->aau E.P f X:=fun f X e=>by
 rw[h] at e;rw[c];exact ext_of b f X e
end Go.Am
end

noncomputable section
namespace Go.Am
open Go
def sF:ì:=⟨[.int .i64],[.str],fun n=>aiq n⟩
def jG:ì:=⟨[.str,.str],[.str],fun(x:ByteArray×ByteArray)=>agw x.1 x.2⟩
def kj:ì:=⟨[.str,.int .u8],[.int .i64],fun(x:ByteArray×Int)=>indexF x.1 x.2⟩
def xC:ì:=⟨[.str,.str],[.slice .str],fun(x:ByteArray×ByteArray)=>Bp x.1 x.2⟩
def Bx:ì:=⟨[.slice .str,.str],[.str],fun(x:rT ByteArray×ByteArray)=>aio x.1 x.2⟩
def xD:ì:=⟨[.str,.str],[.int .i64],fun(x:ByteArray×ByteArray)=>HJ x.1 x.2⟩
end Go.Am
end
