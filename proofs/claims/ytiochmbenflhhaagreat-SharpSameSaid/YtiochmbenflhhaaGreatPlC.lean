/- lemmas -/
import Derived.Test.YtiochmbenflhhaaGreatPlB
set_option linter.all false
set_option linter.unusedSectionVars false
set_option linter.unusedVariables false
set_option linter.unusedSimpArgs false
noncomputable section
namespace Go.Proofs.ZzM
open Go Go.Am
theorem ank {B:Þ} (h:ahk B) {s u t:Int} (hs:0≤s∧s<((Î B).length+1:Nat)) (hu:0≤u∧u<((Î B).length+1:Nat)) (ht:0≤t∧t<((Î B).length+1:Nat)):QZ B s t≤QZ B s u+QZ B u t:=by
 obtain⟨v1,w1⟩:=afh h.good.sys h.good.tied h.op hs hu;obtain⟨v2,w2⟩:=afh h.good.sys h.good.tied h.op hu ht;obtain⟨v3,w3⟩:=w1.app w2;exact anl h.good.sys h.op hs w3
theorem ag6 {α:Type} [DecidableEq α] (l:List α) (w:α→Bool):kG l l w=true:=by
 unfold kG;rw[List.all_eq_true];intro a ha;rw[VX.2 ha,Bool.or_true]
theorem Zi (b:Þ):IB b b=true:=by
 unfold IB;simp only[ag6,Bool.true_and,decide_true]
theorem CM:∀{ns:List (Int×Int)} {b:Þ},(Ţ b ns).2=0→∀s:Þ,IB s (Ţ b ns).1=IB s b∧IB (Ţ b ns).1 s=IB b s
 |[],b,_,s=>⟨rfl,rfl⟩
 |n::t,b,e,s=>by
  unfold Ţ at e ⊢
  split
  ·rename_i h1; rw[if_pos h1] at e; exact absurd e h1
  ·rename_i h1;rw[if_neg h1] at e;obtain⟨p1,p2⟩:=CM e s;rw[p1,p2];unfold jd at h1 ⊢
   split
   ·exact⟨rfl,rfl⟩
   ·split
    ·rename_i h2 h3; rw[if_neg h2,if_pos h3] at h1; exact absurd h3 (by simpa using h1)
    ·exact⟨rfl,rfl⟩
section
variable {B:Þ} (h:ahk B)
theorem ak5 (p:Int):L8 B [p] []=QZ B 0 p:=by
 have e:L8 B [p] []=QZ B 0 p+0:=rfl;rw[e,fP]
theorem aii (p:Int):L8 B [] [p]=QZ B p 0:=by
 have e:L8 B [] [p]=(if false=true then 0 else QZ B p 0)+0:=rfl;rw[e];simp
include h in
theorem ZK {p q:Int} (hp:0≤p∧p<((Î B).length+1:Nat)) (hq:0≤q∧q<((Î B).length+1:Nat)):L8 B [p] [q]=QZ B q p:=by
 have:=ank h hq (ψ B) hp;have e:L8 B [p] [q]=min (QZ B 0 p+((if false=true then 0 else QZ B q 0)+0)) (QZ B q p+((if true=true then 0 else QZ B q 0)+0)):=rfl;rw[e,if_neg (by simp),if_pos rfl];omega
end
theorem Km {b:Þ} {B:Þ} {x day:Int} (hr:ahk B) (hn:RA B (x,day)):(1≤x∧x≤1099511627776)∧Ct day=true:=by
 obtain⟨g,hg,h1,h2⟩:=hn;have h3:=hr.good.gaugeR hg;have h4:=hr.good.day hg h2;dsimp only at h1 h4;refine⟨by omega,?_⟩;unfold Ct inP;simp;omega
theorem Nf {x:Int} (h:1≤x∧x≤1099511627776):ic [x]=true:=(sw _).2 ⟨fun y hy=>by simp at hy; subst hy; exact h,by simp,by simp⟩
theorem akU:ic []=true:=(sw _).2 ⟨fun y hy=>by simp at hy,by simp,by simp⟩
theorem akL {b:Þ} (hn:∀g∈b.2.1,I64 g.2.2.2.2.1.1) (day x y:Int):sg b day x y=some true:=by
 unfold sg rI;rw[few_ok,À,afY]
 by_cases hf:fewP b=true
 case neg=>rw[ez.2 hf]; rfl
 have hI:In b:=⟨alq hf,hn⟩;rw[hf,Ó (by rfl),Ej hI,À,akh hI day (by simp),À,ab9 hI day (by simp) (by simp),À,Vh hI,ab9 hI day (by simp) (by simp)];simp only[À]
 have rest:(Â (Œ b ([(x,day)])) fun r31=>Â (Ĺ b r31.1) fun r32=>Â (Ĺ r31.1 b) fun r33=>Â (Ū b) fun r34=>ifb (ieq r34 (0:Int)) (ifb r31.2 (ifb (ine r32.2 (0:Int)) (some false) (ifb (ine r33.2 (0:Int)) (some false) (ifb (!r32.1) (some false) (ifb (!r33.1) (some false) (some true))))) (some true)) (some true))=some true:=by
  obtain⟨z,hz,hz1,hz2⟩:=akz hI (ns:=[(x,day)]) (by simp) (by simp);have hzI:=amG hI (by simp) (by simp) hz;rw[hz,À,akj hI hzI,À,akj hzI hI,À,akf hI.size,À]
  by_cases hc:ã b=0
  case neg=>rw[Ó (show ieq (ã b) 0=false from beq_eq_false_iff_ne.2 hc)]
  rw[Ù (show ieq (ã b) 0=true from beq_iff_eq.2 hc)]
  by_cases hok:z.2=true
  case neg=>rw[ez.2 hok]; rfl
  obtain⟨hg,hro⟩:=hz1.1 hok;have hze:=hz2 hok;have hg':=Ew hg hro
  have hcz:ã z.1=0:=by rw[hze]; exact(ä _).2 hg'
  have p1:IB b z.1=true:=by rw[hze]; exact(CM hro b).1.trans (Zi b)
  have p2:IB z.1 b=true:=by rw[hze]; exact(CM hro b).2.trans (Zi b)
  have e1:ahc b z.1=(true,0):=by unfold ahc; rw[if_neg (by simp[hc]),if_neg (by simp[hcz]),p1]
  have e2:ahc z.1 b=(true,0):=by unfold ahc; rw[if_neg (by simp[hcz]),if_neg (by simp[hc]),p2]
  rw[hok,e1,e2];rfl
 have mid:(ifb (ieq (jF b (x,day) (y,day)).2 (0:Int)) (ifb (ine x y) (ifb (ine (nD b day [x] [y]).2 (0:Int)) (some false) (ifb (!((Ħ (nD b day [x] [y]).1.1 (jF b (x,day) (y,day)).1.1)&&((Ħ (nD b day [x] [y]).1.2 (jF b (x,day) (y,day)).1.2)&&true))) (some false) (some true))) (some true)) (some true))=some true:=by
  by_cases ho:(Ć b [(x,day),(y,day)]).2=0
  case neg =>
   have e:(jF b (x,day) (y,day)).2=(Ć b [(x,day),(y,day)]).2:=by unfold jF; rw[if_pos ho]
   rw[e,Ó (show ieq (Ć b [(x,day),(y,day)]).2 0=false from beq_eq_false_iff_ne.2 ho)]
  have e:jF b (x,day) (y,day)=(btR (Ć b [(x,day),(y,day)]).1 (x,day) (y,day),0):=by unfold jF; rw[if_neg (by simp[ho])]
  rw[e,Ù (by rfl)]
  by_cases hxy:x=y
  ·rw[Ó (show ine x y=false by rw[hxy]; simp[ine])]
  rw[Ù (show ine x y=true from bne_iff_ne.2 hxy)];have hA:=Uc hI ho;have hr:=hA.room;obtain⟨a1,a2⟩:=Km (b:=b) hr (hA.nodes (x,day) (by simp));obtain⟨a3,_⟩:=Km (b:=b) hr (hA.nodes (y,day) (by simp));have hgd:=(iO hI ho).2.2.2;have hc:=(ä b).2 hgd
  have hd:nD b day [x] [y]=(adL (Ć b [(x,day),(y,day)]).1 b.1 day [x] [y],0):=by
   have ea:argD day [x] [y]=true:=by
    unfold argD;rw[Nf a1,Nf a3,a2];simp[hxy]
   have hoo:onP day ([x]++[y])=[(x,day),(y,day)]:=rfl;unfold nD;rw[if_neg (by simp[hc]),if_neg (by rw[ea]; simp),hoo,if_neg (by simp[ho])]
  rw[hd,Ó (by rfl)];generalize (Ć b [(x,day),(y,day)]).1=B at hr;have k1:=ų B (x,day);have k2:=ų B (y,day)
  have ed:adL B b.1 day [x] [y]=btR B (x,day) (y,day):=by
   have m1:=ZK hr k1 k2;have m2:=ZK hr k2 k1;unfold adL btR;rw[show atL B (onP day [x])=[sn B (x,day).1 (x,day).2] from rfl,show atL B (onP day [y])=[sn B (y,day).1 (y,day).2] from rfl,m1,m2];simp
  rw[ed];exact Ó (by simp[Ħ]) _ _
 -- Between and the parts
 have tail:(ifb (ieq (jF b (x,day) (y,day)).2 (0:Int)) (ifb (ine x y) (ifb (ine (nD b day [x] [y]).2 (0:Int)) (some false) (ifb (!((Ħ (nD b day [x] [y]).1.1 (jF b (x,day) (y,day)).1.1)&&((Ħ (nD b day [x] [y]).1.2 (jF b (x,day) (y,day)).1.2)&&true))) (some false) (Â (Œ b ([(x,day)])) fun r31=>Â (Ĺ b r31.1) fun r32=>Â (Ĺ r31.1 b) fun r33=>Â (Ū b) fun r34=>ifb (ieq r34 (0:Int)) (ifb r31.2 (ifb (ine r32.2 (0:Int)) (some false) (ifb (ine r33.2 (0:Int)) (some false) (ifb (!r32.1) (some false) (ifb (!r33.1) (some false) (some true))))) (some true)) (some true)))) (Â (Œ b ([(x,day)])) fun r31=>Â (Ĺ b r31.1) fun r32=>Â (Ĺ r31.1 b) fun r33=>Â (Ū b) fun r34=>ifb (ieq r34 (0:Int)) (ifb r31.2 (ifb (ine r32.2 (0:Int)) (some false) (ifb (ine r33.2 (0:Int)) (some false) (ifb (!r32.1) (some false) (ifb (!r33.1) (some false) (some true))))) (some true)) (some true))) (Â (Œ b ([(x,day)])) fun r31=>Â (Ĺ b r31.1) fun r32=>Â (Ĺ r31.1 b) fun r33=>Â (Ū b) fun r34=>ifb (ieq r34 (0:Int)) (ifb r31.2 (ifb (ine r32.2 (0:Int)) (some false) (ifb (ine r33.2 (0:Int)) (some false) (ifb (!r32.1) (some false) (ifb (!r33.1) (some false) (some true))))) (some true)) (some true)))=some true:=by
  rw[rest];exact mid
 by_cases ho:(Ć b [(x,day)]).2=0
 case neg =>
  have e:(nm b (x,day)).2=(Ć b [(x,day)]).2:=by unfold nm; rw[if_pos ho]
  rw[e,Ó (show ieq (Ć b [(x,day)]).2 0=false from beq_eq_false_iff_ne.2 ho)];exact tail
 have e:nm b (x,day)=(ivR (Ć b [(x,day)]).1 (x,day),0):=by unfold nm; rw[if_neg (by simp[ho])]
 have hA:=Uc hI ho;have hr:=hA.room;obtain⟨a1,a2⟩:=Km (b:=b) hr (hA.nodes (x,day) (by simp));have hgd:=(iO hI ho).2.2.2;have hc:=(ä b).2 hgd;have ho1:onP day [x]=[(x,day)]:=rfl
 have hp:aki b day [x]=(ahR (Ć b [(x,day)]).1 b.1 [(x,day)],0):=by
  unfold aki;rw[if_neg (by simp[hc]),if_neg (by rw[Nf a1,a2]; simp),ho1,if_neg (by simp[ho])]
 have hd:nD b day [x] []=(adL (Ć b [(x,day)]).1 b.1 day [x] [],0):=by
  have ea:argD day [x] []=true:=by
   unfold argD;rw[Nf a1,akU,a2];simp
  have hoo:onP day ([x]++[])=[(x,day)]:=rfl;unfold nD;rw[if_neg (by simp[hc]),if_neg (by rw[ea]; simp),hoo,if_neg (by simp[ho])]
 rw[e,hp,hd,Ù (by rfl),Ó (by rfl),Ó (by rfl)];generalize (Ć b [(x,day)]).1=B at hr
 have ep:ahR B b.1 [(x,day)]=ivR B (x,day):=by
  unfold ahR aco;simp
 have ed:adL B b.1 day [x] []=ivR B (x,day):=by
  unfold adL ivR;rw[show atL B (onP day [x])=[sn B (x,day).1 (x,day).2] from rfl,show atL B (onP day [])=[] from rfl,ak5,aii];simp;rw[show max (0:Int) (-1)=0 from rfl];omega
 rw[ep,ed,Ó (by simp[Ħ]),Ó (by simp[Ħ])];exact tail
end Go.Proofs.ZzM
end
