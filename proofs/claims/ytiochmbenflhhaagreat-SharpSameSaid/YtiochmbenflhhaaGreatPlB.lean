/- lemmas -/
import Derived.Test.YtiochmbenflhhaaGreatPlA
import Derived.Test.YtiochmbenflhhaaGreatMdTA
set_option linter.all false
set_option linter.unusedSectionVars false
set_option linter.unusedVariables false
set_option linter.unusedSimpArgs false
noncomputable section
namespace Go.Proofs.ZzM
open Go Go.Am
structure ahk (B:Þ):Prop where
 good:ė B
 op:ŏ (æ B) ((Î B).length+1)=true
 num:∀g∈B.2.1,I64 g.2.2.2.2.1.1
theorem iO {b:Þ} (hI:In b) {ns:List (Int×Int)} (e:(Ć b ns).2=0):ahk (Ć b ns).1∧(Ć b ns).1=(Ţ b ns).1∧(Ţ b ns).2=0∧ė b:=by
 unfold Ć at e ⊢
 by_cases hc:ã b=0
 ·rw[if_neg (by simp[hc])] at e ⊢
  by_cases hr:(Ţ b ns).2=0
  ·rw[if_neg (by simp[hr])] at e ⊢
   cases ho:ŏ (æ (Ţ b ns).1) ((Î (Ţ b ns).1).length+1) with
   |true =>
    rw[if_pos rfl];exact⟨⟨Ew ((ä b).1 hc) hr,ho,by rw[uB hr]; exact hI.num⟩,rfl,hr,(ä b).1 hc⟩
   |false=>rw[ho] at e; simp at e
  ·rw[if_pos hr] at e; exact absurd e hr
 ·rw[if_pos hc] at e; exact absurd e hc
theorem ų (B:Þ) (n:Int×Int):0≤sn B n.1 n.2∧sn B n.1 n.2<((Î B).length+1:Nat):=by
 unfold sn
 cases h:iv (Î B) n.1 n.2 with
 |none=>dsimp only; omega
 |some j=>have:=(kq h).1; dsimp only; omega
theorem LU {B:Þ} (h:ė B) (hn:∀g∈B.2.1,I64 g.2.2.2.2.1.1) (s:Sys) (n:Int×Int):Š (B,s) n=some (sn B n.1 n.2):=by
 unfold Š DF;rw[show Ģ (B,s).1 n=Ģ B n from rfl,zD (h.inn hn),À,we h]
 split
 ·rename_i e; rw[e]
 ·rfl
theorem abY {B:Þ} {L:List Lk} {N:Nat} (h:iI L N) {to from':Int} (h1:0≤to∧to<N) (h2:0≤from'∧from'<N):Ë (B,(N:Int),L) to from'=some (hZ L N from' to).1:=by
 unfold Ë rM;rw[show(B,(N:Int),L).2=((N:Int),L) from rfl,ND h h2 h1,À]
def NH (B:Þ):Sys:=(((Î B).length:Int)+1,æ B)
def QZ (B:Þ) (s t:Int):Int:=dst (æ B) ((Î B).length+1) s t
def ivR (B:Þ) (n:Int×Int):Int×Int:=(-(QZ B (sn B n.1 n.2) 0),QZ B 0 (sn B n.1 n.2))
theorem NG (B:Þ):NH B=((((Î B).length+1:Nat):Int),æ B):=by unfold NH; push_cast; rfl
theorem ψ (B:Þ):0≤(0:Int)∧(0:Int)<((Î B).length+1:Nat):=by omega
section
variable {B:Þ} (h:ahk B)
include h
theorem Ee {s t:Int} (hs:0≤s∧s<((Î B).length+1:Nat)) (ht:0≤t∧t<((Î B).length+1:Nat)) : -9007199254740992≤QZ B s t∧QZ B s t≤9007199254740992 :=
 afk h.good.sys h.good.tied h.op hs ht
theorem ur {to from':Int} (h1:0≤to∧to<((Î B).length+1:Nat)) (h2:0≤from'∧from'<((Î B).length+1:Nat)):Ë (B,NH B) to from'=some (QZ B from' to):=by
 rw[NG,abY h.good.sys h1 h2,AD h.good.sys h.good.tied h2 h1,if_pos h.op];rfl
theorem UL (n:Int×Int):η (B,NH B) n=some (-(QZ B (sn B n.1 n.2) 0)):=by
 unfold η rL;have hb:=Ee h (ų B n) (ψ B);rw[LU h.good h.num,À,ur h (ψ B) (ų B n),À,Ö (by omega) (by omega)];congr 1;omega
theorem HE (n:Int×Int):hO (B,NH B) n=some (QZ B 0 (sn B n.1 n.2)):=by
 unfold hO l8;rw[LU h.good h.num,À,ur h (ų B n) (ψ B),À]
theorem vH (n:Int×Int):ū (B,NH B) n=some (ivR B n):=by
 unfold ū l7;rw[UL h,À,HE h,À];rfl
end
def nm (b:Þ) (n:Int×Int):(Int×Int)×Int:=if (Ć b [n]).2≠0 then((0,0),(Ć b [n]).2) else(ivR (Ć b [n]).1 n,0)
theorem Ej {b:Þ} (hI:In b) (n:Int×Int):kD b n=some (nm b n):=by
 unfold kD yl nm;refine(ql hI (ns:=[n]) (by simp) (fun e=>some (((0,0):Int×Int),e)) (fun e he=>by rw[Ī (by simp[ine,he])]) (fun z he=>by rw[Ī (by simp[ine,he])]) (fun _ _ _=>rfl)).trans ?_
 split
 ·rfl
 ·rename_i e;have hr:=(iO hI (by simpa using e)).1;dsimp only;rw[vM,show((((Î (Ć b [n]).1).length:Int)+1,æ (Ć b [n]).1):Sys)=NH (Ć b [n]).1 from rfl,vH hr,À]
theorem ag4 {ρ:Type}:@rU ρ=@Ĉ ρ:=rfl
theorem alf {ρ:Type}:@yk ρ=@Ĉ ρ:=rfl
def btR (B:Þ) (m n:Int×Int):Int×Int:=(-(QZ B (sn B m.1 m.2) (sn B n.1 n.2)),QZ B (sn B n.1 n.2) (sn B m.1 m.2))
def jF (b:Þ) (m n:Int×Int):(Int×Int)×Int:=if (Ć b [m,n]).2≠0 then((0,0),(Ć b [m,n]).2) else(btR (Ć b [m,n]).1 m n,0)
theorem Vh {b:Þ} (hI:In b) (m n:Int×Int):mj b m n=some (jF b m n):=by
 unfold mj DN jF;rw[ag4];refine(ql hI (ns:=[m,n]) (by simp) (fun e=>some (((0,0):Int×Int),e)) (fun e he=>by rw[Ī (by simp[ine,he])]) (fun z he=>by rw[Ī (by simp[ine,he])]) (fun _ _ _=>rfl)).trans ?_
 split
 ·rfl
 ·rename_i e;have hr:=(iO hI (by simpa using e)).1;dsimp only;generalize (Ć b [m,n]).1=B at hr ⊢;have hb:=Ee hr (ų B m) (ų B n)
  rw[vM,show((((Î B).length:Int)+1,æ B):Sys)=NH B from rfl,LU hr.good hr.num,À,LU hr.good hr.num,À,ur hr (ų B n) (ų B m),À,
   Ö (by omega) (by omega),ur hr (ų B m) (ų B n),À]
  unfold btR;rw[Int.zero_sub]
def qe (s l:Int×Int):Int:=if l.1≤s.1∧s.2≤l.2 then 1 else if s.2<l.1∨l.2<s.1 then 2 else 3
theorem TI (s l:Int×Int):pM s l=some (qe s l):=by
 unfold pM Dg qe;simp only[ġ,ile,ilt,decide_eq_true_eq]
 by_cases h1:l.1≤s.1<;>by_cases h2:s.2≤l.2<;>by_cases h3:s.2<l.1<;>by_cases h4:l.2<s.1<;>simp[h1,h2,h3,h4]
def akp (b:Þ) (n l:Int×Int):Int×Int:=if (Ć b [n]).2≠0 then(0,(Ć b [n]).2) else if l.2<l.1 then(0,1) else(qe (ivR (Ć b [n]).1 n) l,0)
theorem amc {b:Þ} (hI:In b) (n l:Int×Int):HS b n l=some (akp b n l):=by
 unfold HS Px akp;rw[alf];refine(ql hI (ns:=[n]) (by simp) (fun e=>some ((0:Int),e)) (fun e he=>by rw[Ù (by simp[ine,he])]) (fun z he=>by rw[Ù (by simp[ine,he])]) (fun _ _ _=>rfl)).trans ?_
 split
 ·rfl
 ·rename_i e;have hr:=(iO hI (by simpa using e)).1;dsimp only
  by_cases hl:l.2<l.1
  ·rw[Ù (by simp[igt,hl]),if_pos hl]
  ·rw[Ó (by simp[igt]; omega),if_neg hl,vM,show((((Î (Ć b [n]).1).length:Int)+1,æ (Ć b [n]).1):Sys)=NH (Ć b [n]).1 from rfl,vH hr,À,TI,À]
def RC (x y:List Int):List Int×List Int×Int:=if !ic x then([],[],1) else if !ic y then([],[],1) else(ê x y,ê y x,0)
def acd {x y:List Int} (hx:x.length≤100000) (hy:y.length≤100000):uk x y=some (RC x y):=by
 unfold uk JR RC;rw[Hx (by omega),À]
 cases ic x with
 |false=>rfl
 |true =>
  rw[Hx (by omega),À]
  cases ic y with
  |false=>rfl
  |true =>
   rw[sc (by omega) (by omega),À,sc (by omega) (by omega),À];rfl
def abv (ls:List (List Int)) (i:Nat):(ls.take i).flatten.length≤ls.flatten.length:=by
 conv=>rhs; rw[←List.take_append_drop i ls,fE,cW]
 omega
def oJ {ls:List (List Int)} (hl:ls.length≤1000000) (hf:ls.flatten.length≤1000000):ï ls=some ls.flatten:=by
 have hk:∀n:Nat,n≤4000000→∀(f:Int→Option (List Int)),ck (n:Int) f=f n:=fun n h f=>Ö (by omega) (by omega) f
 have second:Ï (fun(v9:(Val (.pair tI (.slice tI)))) kk12=>ñ ls (Õ ls) v9.1 v9.2 (fun u10 u11=>kk12 (u10,u11)) (fun z8=>some z8)) ((0:Int),([]:List Int))=some ls.flatten:=by
  refine ü ls (fun i=>(ls.take i).flatten) (some ls.flatten) (f:=fun(v9:(Val (.pair tI (.slice tI)))) kk12=>ñ ls (Õ ls) v9.1 v9.2 (fun u10 u11=>kk12 (u10,u11)) (fun z8=>some z8)) rfl (fun i x hi hx kn=>?_) (fun kn=>?_)
  ·try dsimp only
   unfold ñ;have h1:=abv ls (i+1);rw[take_succ hx,List.flatten_append,List.length_append] at h1;simp only[List.flatten_cons,List.flatten_nil,List.append_nil] at h1;rw[Ô hi,É hx,Í hi (by omega),take_succ hx,List.flatten_append];have:ì ((List.take i ls).flatten.length+x.length)=true:=Ø (by omega);rw[Ī this];simp
  ·try dsimp only
   unfold ñ;rw[â];simp
 unfold ï ja;refine ł (fun x:Int×Int=>∃i:Nat,i≤ls.length∧x=(((ls.take i).flatten.length:Int),(i:Int))) (fun x=>ls.length-x.2.toNat) ?_ ⟨0,by omega,rfl⟩;rintro x ⟨i,hi,rfl⟩;rcases Nat.lt_or_ge i ls.length with h2|h2
 ·refine .inr ⟨(((ls.take (i+1)).flatten.length:Int),(i:Int)+1),⟨i+1,h2,by simp⟩,by simp; omega,fun kn=>?_⟩;obtain⟨x,hx⟩:∃x,ls[i]?=some x:=⟨_,cO h2⟩;have h1:=abv ls (i+1);rw[take_succ hx,fE,cW] at h1;simp only[f5,gd,dK] at h1
  try dsimp only
  unfold Į;rw[Ô h2,É hx,å]
  have e1:(((List.take i ls).flatten.length:Int)+(x.length:Int))=((List.take i ls).flatten.length+x.length:Nat):=by omega
  rw[e1,hk _ (by omega)]
  have:ilt ((((List.take i ls).flatten.length+x.length:Nat)):Int) 0=false:=by simp[ilt]; omega
  rw[Ó this,Í h2 (by omega),take_succ hx];simp
 ·refine .inl fun kn=>?_
  obtain rfl:i=ls.length:=by omega
  try dsimp only
  unfold Į;rw[â,List.take_length];have e2:ilt ((ls.flatten.length:Nat):Int) 0=false:=decide_eq_false (by omega);dsimp only;rw[Ó e2,Int.sub_zero,hk _ (by omega)];rcases Nat.eq_zero_or_pos ls.flatten.length with h0|h0
  ·have:igt (ls.flatten.length:Int) 0=false:=decide_eq_false (by omega);rw[Ó this];exact second
  ·have:igt (ls.flatten.length:Int) 0=true:=decide_eq_true (by omega);rw[Ù this]
   have:((ilt (0:Int) (ls.flatten.length:Int))&&(ì (Int.toNat (ls.flatten.length:Int))))=true:=by
    rw[dt,Ø (by omega),gE];exact decide_eq_true (by omega)
   rw[Ī this];have:ile 0 (ă (List.replicate (Int.toNat (ls.flatten.length:Int)) (0:Int)))=true:=decide_eq_true (Int.natCast_nonneg _);rw[Ī this];exact second
def onP (day:Int) (ids:List Int):List (Int×Int):=ids.map fun id=>(id,day)
def Ep {day:Int} {ls:List (List Int)} (hl:ls.length≤1000000) (hf:ls.flatten.length≤1000000):š day ls=some (onP day ls.flatten):=by
 unfold š Pj;rw[oJ hl hf,À];refine ü ls.flatten (fun i=>onP day (ls.flatten.take i)) _ rfl (fun i x hi hx kn=>?_) (fun kn=>?_)
 ·try dsimp only
  unfold qP;rw[Ô hi,É hx,Í hi (by omega),take_succ hx];have:ì (List.length (onP day (ls.flatten.take i))+List.length ([(x,day)]))=true:=Ø (by simp[onP]; omega);rw[Ī this];simp[onP]
 ·try dsimp only
  unfold qP;rw[â,List.take_length]
def Vn {l:List Int} (hl:l.length≤100000) (m:Int):rz l m=some (ic l&&decide ((l.length:Int)≤m)):=by
 unfold rz WK;rw[acd hl (by simp),À]
 have e0:ic []=true:=by decide
 unfold RC;rw[e0,å]
 cases ic l<;>rfl
def ahE (n:Int):ud n=some (Ct n):=by
 unfold ud Pn Ct inP;rw[ġ]
 by_cases h:0≤n
 ·rw[if_pos (by simpa[ige] using h)]; simp[h]
 ·rw[if_neg (by simpa[ige] using h)]; simp[h]
def HB {ρ α:Type} (l:List α) (i:Int) (f:α→Option ρ):ë ((ile (0:Int) i)&&(ilt i (ă l))) (ĩ l (Int.toNat i) f)=ò l i f:=by
 unfold ò
 by_cases h0:0≤i
 ·by_cases h1:i<l.length
  ·have e:((ile (0:Int) i)&&(ilt i (ă l)))=true:=by simp[ile,ilt,h0,h1]
   rw[Ī e];simp only[h0,decide_true];unfold ĩ;rfl
  ·have e:((ile (0:Int) i)&&(ilt i (ă l)))=false:=by simp[ile,ilt,h1]
   rw[e];simp only[h0,decide_true];rw[gK (by omega)];rfl
 ·have e:((ile (0:Int) i)&&(ilt i (ă l)))=false:=by simp[ile,ilt,h0]
  rw[e];simp only[h0,decide_false];rfl
def ahQ {ρ:Type} (ns:List (Int×Int)) (n:Int):@pA ρ ns n=@Ĉ ρ n ns:=by
 funext v0 v1 v2 v3 v4 v5 v6 v7 kn k0 k1;unfold pA Ĉ;rw[HB]
def aco (B:Þ) (ns:List (Int×Int)) (s:Int×Int):Int×Int:=ns.foldl (fun s n=>(s.1+(ivR B n).1,s.2+(ivR B n).2)) s
def ahR (B:Þ) (f:Int×Int) (ns:List (Int×Int)):Int×Int:=aco B ns (((ns.length:Int)-1)*f.1,((ns.length:Int)-1)*f.2)
def aki (b:Þ) (day:Int) (ids:List Int):(Int×Int)×Int :=
 if ã b≠0 then((0,0),ã b) else if ids.length=0∨ic ids=false∨Ct day=false then((0,0),1) else
 if (Ć b (onP day ids)).2≠0 then((0,0),(Ć b (onP day ids)).2) else(ahR (Ć b (onP day ids)).1 b.1 (onP day ids),0)
def acn (B:Þ) (x y:List (Int×Int)) (s:Int×Int):aco B (x++y) s=aco B y (aco B x s):=by unfold aco; rw[List.foldl_append]
def ahw {B:Þ} (h:ahk B):∀(ns:List (Int×Int)) (s:Int×Int) (m:Int),-m≤s.1∧s.1≤m→-m≤s.2∧s.2≤m →
 (-(m+ns.length*9007199254740992)≤(aco B ns s).1∧(aco B ns s).1≤m+ns.length*9007199254740992)∧(-(m+ns.length*9007199254740992)≤(aco B ns s).2∧(aco B ns s).2≤m+ns.length*9007199254740992)
 |[],s,m,h1,h2=>by unfold aco; simp; omega
 |n::t,s,m,h1,h2=>by
  have b1:=Ee h (ų B n) (ψ B);have b2:=Ee h (ψ B) (ų B n);have:=ahw h t (s.1+(ivR B n).1,s.2+(ivR B n).2) (m+9007199254740992) (by unfold ivR; dsimp only; omega) (by unfold ivR; dsimp only; omega);show(-(m+((n::t).length:Nat)*9007199254740992)≤(aco B t _).1∧_)∧_;unfold aco at this ⊢;simp only[List.foldl_cons,List.length_cons];push_cast;omega
def akh {b:Þ} (hI:In b) (day:Int) {ids:List Int} (hl:ids.length≤1000):HQ b day ids=some (aki b day ids):=by
 unfold HQ WY aki;rw[ź hI.size hI.num,À,Vn (by omega),À,ahE,À,å]
 by_cases hc:ã b=0
 ·rw[Ó (by simp[ine,hc]),if_neg (show ¬(ã b≠0) from fun h=>h hc)]
  by_cases h0:ids.length=0
  ·rw[Ù (by simp[ieq,h0]),if_pos (.inl h0)]
  ·rw[Ó (beq_eq_false_iff_ne.2 (by omega))]
   by_cases h1:ic ids=true
   ·have hp:=(sw ids).1 h1
    have e1:(ic ids&&decide ((ids.length:Int)≤6))=true:=by rw[h1]; simp; omega
    rw[e1,Ó (by rfl)]
    by_cases h2:Ct day=true
    ·have hg:=(ä b).1 hc;rw[Ó (by rw[h2]; rfl),if_neg (by simp[h0,h1,h2]),Ep (by simp) (by simp; omega),À]
     have hlen:(onP day ids).length=ids.length:=by simp[onP]
     rw[show([ids]:List (List Int)).flatten=ids by simp,ahQ,←ź hI.size hI.num];refine(ql hI (ns:=onP day ids) (by omega) (fun e=>some (((0,0):Int×Int),e)) (fun e he=>by rw[Ù (by simp[ine,he])]) (fun z he=>by rw[Ù (by simp[ine,he])]) (fun _ _ _=>rfl)).trans ?_
     split
     ·rfl
     ·rename_i e;have hr:=(iO hI (by simpa using e)).1;have hf:=hg.film;dsimp only;generalize (Ć b (onP day ids)).1=B at hr ⊢
      have hm:∀x:Int,0≤x→x≤1000000→0≤((ids.length:Int)-1)*x∧((ids.length:Int)-1)*x≤10000000:=by
       intro x h0 h1;have:((ids.length:Int)-1)*x≤5*1000000:=fj (by omega) h1 h0 (by omega);exact⟨fG (by omega) h0,by omega⟩
      have m1:=hm b.1.1 (by omega) (by omega);have m2:=hm b.1.2 (by omega) (by omega);rw[Ö (by omega) (by omega),Ö (by omega) (by omega),Ö (by omega) (by omega),vM,show((((Î B).length:Int)+1,æ B):Sys)=NH B from rfl];unfold ahR;rw[hlen];refine ü (onP day ids) (fun i=>aco B ((onP day ids).take i) (((ids.length:Int)-1)*b.1.1,((ids.length:Int)-1)*b.1.2)) _ rfl (fun i n hi hn kn=>?_) (fun kn=>?_)
      ·try dsimp only
       unfold uZ;have b1:=Ee hr (ų B n) (ψ B);have b2:=Ee hr (ψ B) (ų B n);have bs:=ahw hr ((onP day ids).take i) (((ids.length:Int)-1)*b.1.1,((ids.length:Int)-1)*b.1.2) 10000000 (by dsimp only; omega) (by dsimp only; omega)
       have bl:(((onP day ids).take i).length:Int)≤6:=by rw[di]; omega
       rw[Ô hi,É hn,vH hr,À,take_succ hn,acn];generalize aco B ((onP day ids).take i) (((ids.length:Int)-1)*b.1.1,((ids.length:Int)-1)*b.1.2)=s at bs ⊢;unfold ivR;dsimp only;rw[Ö (by omega) (by omega),Ö (by omega) (by omega),Í hi (by omega)];rfl
      ·try dsimp only
       unfold uZ;rw[â,List.take_length]
    ·have h2':Ct day=false:=by simpa using h2
     rw[h2',Ù (by rfl),if_pos (.inr (.inr rfl))]
   ·have h1':ic ids=false:=by simpa using h1
    rw[h1',Ù (by rfl),if_pos (.inr (.inl rfl))]
 ·rw[Ù (by simp[ine,hc]),if_pos hc]
def pJ {α:Type} (p:α→Bool) (l:List α) (i:Nat):((l.take i).filter p).length≤l.length:=by
 have h1:=dJ p (l.take i);rw[di] at h1;omega
def ahB (f:Int→Int→Int) (z:Int) (l:List Int) (d:Int):Int:=match l with|[]=>z|x::_=>f x d
def H4 (f:Int→Int→Int) (z:Int) (c:Cmp):Int:=ahB f z (ê c.2.2.1 c.2.2.2.1) c.2.1-ahB f z (ê c.2.2.2.1 c.2.2.1) c.2.1
structure anO (b:Þ) (f:Int→Int→Int) (z:Int) (g:í):Prop where
 hi:f g.1 g.2.1≤z+(g.2.2.1+g.2.2.2.1.2)
 lo:z+(g.2.2.1+g.2.2.2.1.1)≤f g.1 g.2.1
 down:∀d e,g.2.1≤d→d≤e→f g.1 e≤f g.1 d
 loss:∀d e,g.2.1≤d→d≤e→f g.1 d≤f g.1 e+iS b g d e
structure aci (b:Þ) (f:Int→Int→Int) (z:Int):Prop where
 gauge:∀g∈b.2.1,anO b f z g
 cmp:∀c∈b.2.2.2.2.1,(Ν b c).1≤H4 f z c∧H4 f z c≤(Ν b c).2
def abz {b:Þ} (h:ė b) {p:Int→Int} (hg:∀g∈b.2.1,pY b p g):∃f:Int→Int→Int,(∀g∈b.2.1,anO b f (p 0) g)∧∀g∈b.2.1,∀d∈á b g,f g.1 d=p (Γ b g.1 d):=by
 let f:Int→Int→Int:=fun id d=>match ť b id with|some g=>fill b p g d|none=>0
 have hfv:∀g∈b.2.1,∀d,f g.1 d=fill b p g d:=fun g hgm d=>by
  show(match ť b g.1 with|some g=>fill b p g d|none=>0)=_;rw[vJ h.ids hgm]
 refine⟨f,fun g hgm=>?_,fun g hgm d hd=>by rw[hfv g hgm]; exact Nu h hgm (hg g hgm) hd⟩;have gf:=hg g hgm
 have e0:f g.1 g.2.1=p (Γ b g.1 g.2.1):=by rw[hfv g hgm]; exact Nu h hgm gf (j4 g)
 refine⟨by rw[e0]; exact gf.hi,by rw[e0]; exact gf.lo,fun d e h0 hde=>?_,fun d e h0 hde=>?_⟩
 ·rw[hfv g hgm,hfv g hgm];exact(HI h hgm gf h0 hde).1
 ·rw[hfv g hgm,hfv g hgm];exact(HI h hgm gf h0 hde).2
def YY {b:Þ} {f:Int→Int→Int} {p:Int→Int} (hm:∀g∈b.2.1,∀d∈á b g,f g.1 d=p (Γ b g.1 d)) {l:List Int} {day:Int} (hl:∀x∈l,∃g∈b.2.1,g.1=x∧day∈á b g):p (MZ b l day)=ahB f (p 0) l day:=by
 cases l with
 |nil=>rfl
 |cons x t =>
  obtain⟨g,q1,rfl,q3⟩:=hl x (by simp);exact(hm g q1 day q3).symm
def Q2 {b:Þ} {f:Int→Int→Int} {p:Int→Int} (hm:∀g∈b.2.1,∀d∈á b g,f g.1 d=p (Γ b g.1 d)) {c:Cmp}
 (hl:∀x,x∈ê c.2.2.1 c.2.2.2.1∨x∈ê c.2.2.2.1 c.2.2.1→∃g∈b.2.1,g.1=x∧c.2.1∈á b g):p (cx b c)-p (cy b c)=H4 f (p 0) c:=by
 unfold H4;rw[Kc,Kb,YY hm (fun x hx=>hl x (.inl hx)),YY hm (fun x hx=>hl x (.inr hx))]
def TU {b:Þ} (h:ė b) (f:Int→Int→Int) (z:Int) {l:List Int} {day:Int} (hl:∀x∈l,∃g∈b.2.1,g.1=x∧day∈á b g):TV b f z (MZ b l day)=ahB f z l day:=by
 rw[Kk h f z hl];unfold ahB
 cases l<;>rfl
def NX {b:Þ} (h:ė b) {f:Int→Int→Int} {z:Int} {c:Cmp} (hl:∀x,x∈ê c.2.2.1 c.2.2.2.1∨x∈ê c.2.2.2.1 c.2.2.1→∃g∈b.2.1,g.1=x∧c.2.1∈á b g):TV b f z (cx b c)-TV b f z (cy b c)=H4 f z c:=by
 unfold H4;rw[Kc,Kb,TU h f z (fun x hx=>hl x (.inl hx)),TU h f z (fun x hx=>hl x (.inr hx))]
def TT {b:Þ} (h:ė b) {f:Int→Int→Int} {z:Int} {g:í} (hg:g∈b.2.1) (hh:anO b f z g):pY b (TV b f z) g:=by
 have q:∀d∈á b g,TV b f z (Γ b g.1 d)=f g.1 d:=fun d hd=>Ey h f z hg hd;have e0:=q g.2.1 (j4 g);refine⟨?_,?_,fun d e hd he hde=>?_,fun d e hd he hde=>?_⟩
 ·rw[e0,oQ]; exact hh.hi
 ·rw[e0,oQ]; exact hh.lo
 ·rw[q d hd,q e he]; exact hh.down d e (h.day hg hd).1 hde
 ·rw[q d hd,q e he]; exact hh.loss d e (h.day hg hd).1 hde
section
variable {b:Þ} {c:Cmp}
def akS (h:ė b) {p:Int→Int} (hp:Pot (æ b) p):∃f,aci b f (p 0)∧∀g∈b.2.1,∀d∈á b g,f g.1 d=p (Γ b g.1 d):=by
 obtain⟨hg,hc⟩:=(Vx h).1 hp;obtain⟨f,hf,hm⟩:=abz h hg;refine⟨f,⟨hf,fun c hcm=>?_⟩,hm⟩;have:=Q2 hm (c:=c) (fun x hx=>oc h hcm hx);have:=hc c hcm;omega
def alj (h:ė b) {f:Int→Int→Int} {z:Int} (hh:aci b f z):Pot (æ b) (TV b f z):=by
 refine(Vx h).2 ⟨fun g hg=>TT h hg (hh.gauge g hg),fun c hc=>?_⟩;have:=NX (f:=f) (z:=z) h (c:=c) (fun x hx=>oc h hc hx);have:=hh.cmp c hc;omega
def afl (h:ė b) {d:Cmp} (hd:d∈b.2.2.2.2.1):∀x,x∈ê d.2.2.1 d.2.2.2.1∨x∈ê d.2.2.2.1 d.2.2.1→∃g∈(î b c).2.1,g.1=x∧d.2.1∈á (î b c) g:=by
 intro x hx;obtain⟨g,q1,q2,q3⟩:=oc h hd hx;exact⟨g,q1,q2,un q3⟩
def aiT (h:ė b) (h':ė (î b c)) {p:Int→Int} (hp:Pot (û (î b c)) p):∃f,aci b f (p 0)∧p (cx (î b c) c)-p (cy (î b c) c)=H4 f (p 0) c:=by
 obtain⟨hg,hc⟩:=(Nt h').1 hp;obtain⟨f,hf,hm⟩:=abz h' hg;refine⟨f,⟨fun g hgm=>?_,fun d hd=>?_⟩,Q2 hm fun x hx=>oc h' zK hx⟩
 ·have:=hf g hgm;exact⟨this.hi,this.lo,this.down,this.loss⟩
 ·have:=Q2 hm (c:=d) (afl h hd);have:=hc d hd;omega
def aiS (h:ė b) (h':ė (î b c)) {f:Int→Int→Int} {z:Int} (hh:aci b f z):Pot (û (î b c)) (TV (î b c) f z)∧TV (î b c) f z (cx (î b c) c)-TV (î b c) f z (cy (î b c) c)=H4 f z c:=by
 refine⟨(Nt h').2 ⟨fun g hg=>TT h' hg ?_,fun d hd=>?_⟩,NX h' fun x hx=>oc h' zK hx⟩
 ·have:=hh.gauge g hg;exact⟨this.hi,this.lo,this.down,this.loss⟩
 ·have:=NX (f:=f) (z:=z) h' (c:=d) (afl h hd);have:=hh.cmp d hd;omega
def ZE (h:ė b):ŏ (æ b) ((Î b).length+1)=true↔∃f z,aci b f z:=by
 have:=h.sys.n60;rw[Ξ h.sys.links (by omega)];constructor
 ·rintro⟨p,hp⟩;obtain⟨f,hf,_⟩:=akS h hp;exact⟨f,_,hf⟩
 ·rintro⟨f,z,hh⟩;exact⟨_,alj h hh⟩
def d_max (h:ė b) (h':ė (î b c)) {f:Int→Int→Int} {z:Int} (hh:aci b f z):dLo b c≤H4 f z c∧H4 f z c≤dHi b c:=by
 have ho:ŏ (û (î b c)) ((Î (î b c)).length+1)=true:=by rw[pG h h']; exact(ZE h).2 ⟨f,z,hh⟩
 obtain⟨hp,hd⟩:=aiS h h' hh;have a1:=X5 (jz h') (jQ h') ho (Cv h') (Cu h') hp;have a2:=X5 (jz h') (jQ h') ho (Cu h') (Cv h') hp;unfold dLo dHi;omega
def d_all (h:ė b) (h':ė (î b c)) (ho:ŏ (æ b) ((Î b).length+1)=true) {t:Int} (h1:dLo b c≤t) (h2:t≤dHi b c):∃f z,aci b f z∧H4 f z c=t:=by
 rw[←pG h h'] at ho;obtain⟨p,hp,hd⟩:=anm (jz h') (jQ h') ho (Cv h') (Cu h') h1 h2;obtain⟨f,hf,he⟩:=aiT h h' hp;exact⟨f,_,hf,by rw[←he]; exact hd⟩
def anp (h:ė b) (h':ė (î b c)) (ho:ŏ (æ b) ((Î b).length+1)=true):dLo b c≤dHi b c:=by
 rw[←pG h h'] at ho;exact abD (jz h') (jQ h') ho (Cv h') (Cu h')
structure Pred (b:Þ) (c:Cmp) (s:Int×Int):Prop where
 good:ė b
 good2:ė (î b (Ê c))
 order:adx b c≤Eb b c
 has:∃f z,aci b f z
 ends:s.1-adx b c≤s.2-Eb b c
 bd : -9007199254740992≤s.1-adx b c∧s.2-Eb b c≤9007199254740992
 all:∀f z,aci b f z→s.1-adx b c≤H4 f z c∧H4 f z c≤s.2-Eb b c
 each:∀t,s.1-adx b c≤t→t≤s.2-Eb b c→∃f z,aci b f z∧H4 f z c=t
def Zb (hp:(Ĵ b c).2=0):Pred b c (Ĵ b c).1:=by
 obtain⟨h,h'⟩:=ov hp;rw[Rz h h'] at hp ⊢
 by_cases ho:ŏ (æ b) ((Î b).length+1)=true
 ·rw[if_pos ho] at hp ⊢;obtain⟨h1,h2⟩:=acr hp;rw[h2];have e1:adx b (Ê c)=adx b c:=rfl;have e2:Eb b (Ê c)=Eb b c:=rfl;rw[e1,e2] at *
  have s1:dLo b (Ê c)+adx b c-adx b c=dLo b (Ê c):=by omega
  have s2:dHi b (Ê c)+Eb b c-Eb b c=dHi b (Ê c):=by omega
  refine⟨h,h',h1,(ZE h).1 ho,?_,?_,fun f z hh=>?_,fun t t1 t2=>?_⟩
  ·simp only;rw[s1,s2];exact anp h h' ho
  ·simp only;rw[s1,s2];rw[←pG h h'] at ho;have a1:=afk (jz h') (jQ h') ho (Cv h') (Cu h');have a2:=afk (jz h') (jQ h') ho (Cu h') (Cv h');unfold dLo dHi;omega
  ·simp only;rw[s1,s2];exact d_max (c:=Ê c) h h' hh
  ·simp only at t1 t2;rw[s1] at t1;rw[s2] at t2;exact d_all (c:=Ê c) h h' ho t1 t2
 ·rw[if_neg ho] at hp;simp at hp
end
def ajl {k:Int×Int} (hk:0<k.2) (m n:Int):0<amx (ET k m) (ET k n)↔k.1*n<k.1*m:=by
 obtain⟨g,g0,_,g1,g2⟩:=zH (n:=k.1*m) hk;obtain⟨h,h0,_,h1,h2⟩:=zH (n:=k.1*n) hk
 have key:(ET k n).1*(ET k m).2<(ET k m).1*(ET k n).2↔k.1*n<k.1*m:=by
  have e1:(ET k n).1*(ET k m).2*((g:Int)*h)=k.1*n*k.2:=by
   show(nq (k.1*n) k.2).1*(nq (k.1*m) k.2).2*((g:Int)*h)=k.1*n*k.2
   calc _=((nq (k.1*n) k.2).1*h)*((nq (k.1*m) k.2).2*g):=by ac_rfl
    _=_:=by rw[←h1,←g2]
  have e2:(ET k m).1*(ET k n).2*((g:Int)*h)=k.1*m*k.2:=by
   show(nq (k.1*m) k.2).1*(nq (k.1*n) k.2).2*((g:Int)*h)=k.1*m*k.2
   calc _=((nq (k.1*m) k.2).1*g)*((nq (k.1*n) k.2).2*h):=by ac_rfl
    _=_:=by rw[←g1,←h2]
  have pg:0<(g:Int)*h:=Int.mul_pos (by omega) (by omega);constructor
  ·intro hl;have:=Int.mul_lt_mul_of_pos_right hl pg;rw[e1,e2] at this;exact Int.lt_of_mul_lt_mul_right this (by omega)
  ·intro hl;have:=Int.mul_lt_mul_of_pos_right hl hk;rw[←e1,←e2] at this;exact Int.lt_of_mul_lt_mul_right this (by omega)
 rw[←key];unfold amx
 by_cases he:ET k m=ET k n
 ·rw[if_pos he,he];omega
 ·rw[if_neg he]
  split
  ·omega
  ·split<;>omega
def af4 {k:Int×Int} (hk:0<k.2) {heat:Int×Int} (hh:heat.1≤heat.2):VM k heat=if k.1<0 then(ET k heat.2,ET k heat.1) else(ET k heat.1,ET k heat.2):=by
 unfold VM
 by_cases hn:k.1<0
 ·rw[if_pos hn]
  by_cases he:heat.1=heat.2
  ·rw[he]
   split<;>rfl
  ·rw[if_pos ((ajl hk _ _).2 (Int.mul_lt_mul_of_neg_left (by omega) hn))]
 ·rw[if_neg hn,if_neg (fun h=>by
   have h1:=(ajl hk _ _).1 h;have h2:=Int.mul_le_mul_of_nonneg_left hh (show 0≤k.1 by omega)
   omega)]
def RA (b:Þ) (n:Int×Int):Prop:=∃g∈b.2.1,g.1=n.1∧n.2∈á b g
theorem ali {b:Þ} (h:ė b) {n:Int×Int}:sn b n.1 n.2≠0↔RA b n:=by
 unfold sn;constructor
 ·intro hne
  cases hx:iv (Î b) n.1 n.2 with
  |none=>rw[hx] at hne; simp at hne
  |some j =>
   have hm:=List.mem_of_getElem? (kq hx).2;unfold Î at hm;obtain⟨g,hg,hd⟩:=List.mem_flatMap.1 hm;obtain⟨d,hd,e⟩:=List.mem_map.1 hd;simp only[Prod.mk.injEq] at e;obtain⟨e1,rfl⟩:=e;exact⟨g,hg,e1,hd⟩
 ·rintro⟨g,hg,e,hd⟩;obtain⟨i,hi,rfl⟩:=List.mem_iff_getElem.1 hg;obtain⟨k,hk,e2⟩:=List.mem_iff_getElem.1 hd;rw[←e,VT h (List.getElem?_eq_getElem hi) (by rw[List.getElem?_eq_getElem hk,e2])];dsimp only;omega
theorem ajf (b:Þ) (n:Int×Int) (g:í) {d:Int} (hd:d∈á b g):d∈á (kK b n) g:=by
 unfold á at hd ⊢;rw[qi] at hd ⊢;unfold X6 kK at *;simp only[List.mem_append,List.mem_map,List.mem_filter] at hd ⊢;rcases hd with(h|h)|⟨m,⟨h1,h2⟩,h3⟩
 ·exact .inl (.inl h)
 ·exact .inl (.inr h)
 ·exact .inr ⟨m,⟨.inl h1,h2⟩,h3⟩
theorem aiz {b:Þ} (n:Int×Int) (h':ė (kK b n)):RA (kK b n) n:=by
 have hu:=h'.looks n (by simp[kK]);unfold afQ at hu
 split at hu
 ·omega
 obtain⟨g,hg,_⟩:=IL h' hu;obtain⟨hm,e⟩:=nf hg;refine⟨g,hm,e,?_⟩;unfold á;rw[qi];unfold X6 kK;simp only[List.mem_append,List.mem_map,List.mem_filter];exact .inr ⟨n,⟨.inr (by simp),by simp[e]⟩,rfl⟩
theorem NL {b:Þ} {n:Int×Int} (e:(jd b n).2=0):(jd b n=(b,0)∧sn b n.1 n.2≠0)∨(jd b n=(kK b n,0)∧ė (kK b n)∧sn b n.1 n.2=0):=by
 unfold jd at e ⊢
 split
 ·rename_i h; exact .inl ⟨rfl,h⟩
 ·rename_i h1;rw[if_neg h1] at e
  split
  ·rename_i h2; rw[if_pos h2] at e; exact absurd e h2
  ·rename_i h2; exact .inr ⟨rfl,(ä _).1 (by simpa using h2),by simpa using h1⟩
theorem Y6:∀{ns:List (Int×Int)} {b:Þ},(Ţ b ns).2=0→∀n,RA b n→RA (Ţ b ns).1 n
 |[],b,_,n,hn=>hn
 |m::t,b,e,n,hn=>by
  unfold Ţ at e ⊢
  split
  ·rename_i h1; rw[if_pos h1] at e; exact absurd e h1
  ·rename_i h1;rw[if_neg h1] at e;refine Y6 e n ?_;rcases NL (by simpa using h1) with⟨h,_⟩|⟨h,_,_⟩
   ·rw[h]; exact hn
   ·rw[h];obtain⟨g,hg,e1,hd⟩:=hn;exact⟨g,hg,e1,ajf b m g hd⟩
theorem Y5:∀{ns:List (Int×Int)} {b:Þ},ė b→(Ţ b ns).2=0→∀n∈ns,RA (Ţ b ns).1 n
 |[],b,_,_,n,hn=>by simp at hn
 |m::t,b,hg,e,n,hn=>by
  unfold Ţ at e ⊢
  split
  ·rename_i h1; rw[if_pos h1] at e; exact absurd e h1
  ·rename_i h1;rw[if_neg h1] at e
   have h1':(jd b m).2=0:=by simpa using h1
   rcases dc.1 hn with rfl|hn
   ·refine Y6 e n ?_;rcases NL h1' with⟨h,h2⟩|⟨h,h2,_⟩
    ·rw[h]; exact(ali hg).1 h2
    ·rw[h]; exact aiz n h2
   ·exact Y5 (NJ hg h1') e n hn
theorem aiA {b:Þ} {n:Int×Int} {f:Int→Int→Int} {z:Int}:aci (kK b n) f z↔aci b f z :=
 ⟨fun h=>⟨fun g hg=>by have:=h.gauge g hg; exact⟨this.hi,this.lo,this.down,this.loss⟩,h.cmp⟩,fun h=>⟨fun g hg=>by have:=h.gauge g hg; exact⟨this.hi,this.lo,this.down,this.loss⟩,h.cmp⟩⟩
theorem Y7:∀{ns:List (Int×Int)} {b:Þ},(Ţ b ns).2=0→∀{f:Int→Int→Int} {z:Int},aci (Ţ b ns).1 f z↔aci b f z
 |[],b,_,f,z=>Iff.rfl
 |m::t,b,e,f,z=>by
  unfold Ţ at e ⊢
  split
  ·rename_i h1; rw[if_pos h1] at e; exact absurd e h1
  ·rename_i h1;rw[if_neg h1] at e;rw[Y7 e];rcases NL (by simpa using h1) with⟨h,_⟩|⟨h,_,_⟩
   ·rw[h]
   ·rw[h]; exact aiA
section
variable {B:Þ} (h:ahk B)
include h
end
structure Asked (b:Þ) (ns:List (Int×Int)) (B:Þ):Prop where
 room:ahk B
 nodes:∀n∈ns,RA B n
 hist:∀{f:Int→Int→Int} {z:Int},aci B f z↔aci b f z
 good:ė b
 gauges:B.2.1=b.2.1
theorem Uc {b:Þ} (hI:In b) {ns:List (Int×Int)} (e:(Ć b ns).2=0):Asked b ns (Ć b ns).1:=by
 obtain⟨h1,h2,h3,h4⟩:=iO hI e;exact⟨h1,by rw[h2]; exact Y5 h4 h3,by rw[h2]; exact Y7 h3,h4,by rw[h2]; exact uB h3⟩
def U9 (c:Cmp):Bool:=decide (c.2.2.1.length≤10)&&decide (c.2.2.2.1.length≤10)
theorem ajO (c:Cmp):Aa c=some (U9 c):=by
 unfold Aa IP U9;rw[å,å,ġ]
 by_cases h:c.2.2.1.length≤10
 ·rw[if_pos (by simp[ile]; omega)];simp[ile,h];omega
 ·rw[if_neg (by simp[ile]; omega)];simp[h]
def fewP (b:Þ):Bool :=
 !((b.2.2.2.2.1.take 50).any fun c=>!U9 c)&&(decide (b.2.1.length≤14)&&(decide (b.2.2.1.length≤45)&&(decide (b.2.2.2.1.length≤14)&&(decide (b.2.2.2.2.1.length≤42)&&decide (b.2.2.2.2.2.length≤12)))))
theorem few_ok (b:Þ):Nv b=some (fewP b):=by
 unfold Nv V3
 have last:(ifb (ile (Õ b.2.1) (14:Int)) (ifb (ile (Õ b.2.2.1) (45:Int)) (ifb (ile (Õ b.2.2.2.1) (14:Int)) (ifb (ile (Õ b.2.2.2.2.1) (42:Int)) (some (ile (Õ b.2.2.2.2.2) (12:Int))) (some false)) (some false)) (some false)) (some false)) =
  some (decide (b.2.1.length≤14)&&(decide (b.2.2.1.length≤45)&&(decide (b.2.2.2.1.length≤14)&&(decide (b.2.2.2.2.1.length≤42)&&decide (b.2.2.2.2.2.length≤12))))):=by
  have e:∀(n m:Nat),ile (n:Int) (m:Int)=decide (n≤m):=fun n m=>by simp[ile]
  rw[å,å,å,å,å,show(14:Int)=((14:Nat):Int) from rfl,show(45:Int)=((45:Nat):Int) from rfl,show(42:Int)=((42:Nat):Int) from rfl,show(12:Int)=((12:Nat):Int) from rfl,e,e,e,e,e];generalize decide (b.2.1.length≤14)=x1;generalize decide (b.2.2.1.length≤45)=x2;generalize decide (b.2.2.2.1.length≤14)=x3;generalize decide (b.2.2.2.2.1.length≤42)=x4
  cases x1<;>cases x2<;>cases x3<;>cases x4<;>rfl
 rw[last];refine eY (ķ (b.2.2.2.2.1.take 50) (fun c=>!U9 c) (fun _=>some false) (some false) (some (decide (b.2.1.length≤14)&&(decide (b.2.2.1.length≤45)&&(decide (b.2.2.2.1.length≤14)&&(decide (b.2.2.2.2.1.length≤42)&&decide (b.2.2.2.2.2.length≤12)))))) (fun _=>rfl) (fun i c hi hc kn=>?_) (fun kn=>?_)) ?_
 ·try dsimp only
  unfold uH;rw[List.length_take] at hi
  have hc':b.2.2.2.2.1[i]?=some c:=by rw[eh] at hc; split at hc<;>simp_all
  rw[Ô (show i<b.2.2.2.2.1.length by omega),Ù (decide_eq_true (by omega)),É hc',ajO,À,Ö (by omega) (by omega),ġ]
 ·try dsimp only
  unfold uH;rw[List.length_take,ġ]
  split
  ·rename_i h
   have h':50<b.2.2.2.2.1.length:=by rw[å] at h; simp[ilt] at h; omega
   rw[Ó (decide_eq_false (by omega))]
  ·rfl
 ·unfold fewP
  cases List.any (List.take 50 b.2.2.2.2.1) (fun c=>!U9 c)<;>rfl
theorem alq {b:Þ} (h:fewP b=true):Ŷ b:=by
 simp only[fewP,cR,eN,decide_eq_true_eq] at h;obtain⟨h0,h1,h2,h3,h4,h5⟩:=h;refine⟨by omega,by omega,by omega,by omega,by omega,fun c hc=>?_⟩;rw[dV (by omega)] at h0;have:=eV.1 h0 c hc;simp[U9] at this;omega
section
variable {ρ:Type}
abbrev Rm:Type:=Val (.ptr amh)
def anE (rm:Rm) (y:List Int) (u:List Bool) (K:Int→Option ρ):Option ρ :=
 Ï (fun(v8:Int×Int) kk11=>iR y (Õ y) rm u v8.1 v8.2 (fun u9 u10=>kk11 (u9,u10)) K) ((0:Int),(0:Int))
def anC (M:Int→List Bool→(Int×List Bool→Option ρ)→Option ρ) (rm:Rm) (x y:List Int) (c0 v0 v1:Int) (v2:List Bool) (kn:Int→Int→List Bool→Option ρ) (k0:Int×List Bool→Option ρ):Option ρ :=
 ifb (ilt v1 (Õ y)) (ò y v1 fun e=>ë ((ile (0:Int) v1)&&(ilt v1 (ă v2))) (ĩ v2 (Int.toNat v1) fun b=>ifb b (ck (v1+(1:Int)) fun n=>kn v0 n v2)
  (ë ((ile (0:Int) v1)&&(ilt v1 (ă v2))) (ĩ v2 (Int.toNat v1) fun _=>ò x c0 fun a=>Â (Ë rm a e) fun r=>ck (c0+(1:Int)) fun k1=>M k1 (List.set v2 (Int.toNat v1) true) (fun z=>ck (r+z.1) fun s =>
   ë ((ile (0:Int) v1)&&(ilt v1 (ă z.2))) (ĩ z.2 (Int.toNat v1) fun _=>ck (v1+(1:Int)) fun n=>kn (Ea v0 s) n (List.set z.2 (Int.toNat v1) false))))))) (k0 (v0,v2))
def ZQ (rm:Rm) (x y:List Int):Nat→Int→List Bool→(Int×List Bool→Option ρ)→Option ρ
 |0,_,_,_=>none
 |n+1,k,u,K=>ifb (ieq k (Õ x)) (anE rm y u fun z=>K (z,u)) (ò x k fun e=>Â (Ë rm e (0:Int)) fun r=>ck (k+(1:Int)) fun k1=>ZQ rm x y n k1 u fun z=>ck (r+z.1) fun s =>
    Ï (fun(v:Int×Int×List Bool) kk=>anC (ZQ rm x y n) rm x y k v.1 v.2.1 v.2.2 (fun a b c=>kk (a,b,c)) K) (s,(0:Int),z.2))
def ak4 (rm:Rm) (x y:List Int):Τ rm x y=ë ((ile (0:Int) (Õ y))&&(ì (Int.toNat (Õ y)))) (ZQ rm x y 4 0 (List.replicate (Int.toNat (Õ y)) false) fun z=>some z.1):=rfl
end
section
variable {ρ:Type}
def AF (R:Int→Int→Int):List Int→List Bool→Int
 |n::y,u::us=>(if u then 0 else R 0 n)+AF R y us
 |_,_=>0
def Vk (R:Int→Int→Int) (a:Int) (M:List Bool→Int) (y:List Int) (u:List Bool) (v:Int) (i:Nat):Int:=if u[i]?.getD true then v else min v (R a (y[i]?.getD 0)+M (u.set i true))
def jL (R:Int→Int→Int):List Int→List Int→List Bool→Int
 |[],y,u=>AF R y u
 |a::x,y,u=>(List.range y.length).foldl (Vk R a (jL R x y) y u) (R a 0+jL R x y u)
structure RmOk (rm:Rm) (R:Int→Int→Int) (V:Int→Prop):Prop where
 run:∀a b,V a→V b→∀{σ:Type} (K:Int→Option σ),Â (Ë rm a b) K=K (R a b)
 bd:∀a b,V a→V b→-9007199254740992≤R a b∧R a b≤9007199254740992
 zero:V 0
variable {rm:Rm} {R:Int→Int→Int} {V:Int→Prop} (hR:RmOk rm R V)
include hR
theorem Vs:∀(y:List Int) (u:List Bool),(∀a∈y,V a)→-(y.length*9007199254740992)≤AF R y u∧AF R y u≤y.length*9007199254740992
 |[],u,_=>by cases u<;>simp[AF]
 |n::y,[],_=>by simp only[AF,df]; omega
 |n::y,u::us,h=>by
  have h1:=Vs y us (fun a ha=>h a (fN _ ha));have h2:=hR.bd 0 n hR.zero (h n (by simp));simp only[AF,df];push_cast;cases u
  ·rw[if_neg (by simp)]; omega
  ·rw[if_pos rfl]; omega
omit hR in
theorem TQ:∀(y:List Int) (u:List Bool) (n:Int) (b:Bool),y.length=u.length→AF R (y++[n]) (u++[b])=AF R y u+(if b then 0 else R 0 n)
 |[],[],n,b,_=>by simp[AF]
 |m::y,c::u,n,b,h=>by
  have:=TQ y u n b (by simpa using h);simp only[eQ,AF,this];omega
theorem anD {y:List Int} (hy:y.length≤1000) (hV:∀a∈y,V a) {u:List Bool} (hu:u.length=y.length) (K:Int→Option ρ):anE rm y u K=K (AF R y u):=by
 unfold anE;refine ł (fun v:Int×Int=>∃i:Nat,i≤y.length∧v=(AF R (y.take i) (u.take i),(i:Int))) (fun v=>y.length-v.2.toNat) ?_ ⟨0,by omega,rfl⟩;rintro v ⟨i,hi,rfl⟩;rcases Nat.lt_or_ge i y.length with h|h
 ·have hg:y[i]?=some y[i]:=cO h;have hgu:u[i]?=some (u[i]'(by omega)):=cO (by omega)
  have e:AF R (y.take (i+1)) (u.take (i+1))=AF R (y.take i) (u.take i)+(if u[i]'(by omega) then 0 else R 0 y[i]):=by
   rw[take_succ hg,take_succ hgu,TQ _ _ _ _ (by simp; omega)]
  have hb:=Vs hR (y.take i) (u.take i) (fun a ha=>hV a (List.mem_of_mem_take ha));have hvi:V y[i]:=hV _ (eE h);have hb2:=hR.bd 0 y[i] hR.zero hvi
  have hl:(y.take i).length≤1000:=by simp; omega
  refine .inr ⟨(AF R (y.take (i+1)) (u.take (i+1)),((i+1:Nat):Int)),⟨i+1,h,rfl⟩,by simp; omega,fun kn=>?_⟩;dsimp only;unfold iR;rw[Ô h,É hg,HB,É hgu,e]
  cases hui:u[i]'(by omega) with
  |true =>
   rw[if_pos rfl,dN,é,Í h (by omega),fP];rfl
  |false =>
   rw[if_neg (by simp),f7,Ō,hR.run 0 y[i] hR.zero hvi,Ö (by omega) (by omega),Í h (by omega)];rfl
 ·refine .inl fun kn=>?_
  obtain rfl:i=y.length:=by omega
  dsimp only;unfold iR;rw[â,List.take_length,←hu,List.take_length]
omit hR in
theorem adG {D:Int} {f:Int→Nat→Int} (hf:∀v i,-D≤v∧v≤D→-D≤f v i∧f v i≤D):∀(l:List Nat) (v:Int),-D≤v∧v≤D→-D≤l.foldl f v∧l.foldl f v≤D
 |[],v,h=>h
 |i::l,v,h=>adG hf l _ (hf v i h)
theorem Oj {y:List Int} (hV:∀a∈y,V a):∀(x:List Int) (u:List Bool),(∀a∈x,V a)→-((x.length+y.length)*9007199254740992)≤jL R x y u∧jL R x y u≤(x.length+y.length)*9007199254740992
 |[],u,_=>by
  have:=Vs hR y u hV;unfold jL;simp only[List.length_nil];omega
 |a::x,u,h=>by
  have ih:=fun u=>Oj hV x u (fun b hb=>h b (List.mem_cons_of_mem _ hb));have ha:=h a (by simp);unfold jL;have h0:=ih u;have hb0:=hR.bd a 0 ha hR.zero;refine adG (fun v i hv=>?_) _ _ ?_
  ·unfold Vk
   split
   ·exact hv
   ·have h1:=ih (u.set i true)
    have h2 : -9007199254740992≤R a (y[i]?.getD 0)∧R a (y[i]?.getD 0)≤9007199254740992:=by
     cases hy:y[i]? with
     |none=>exact hR.bd a 0 ha hR.zero
     |some n=>exact hR.bd a n ha (hV n (cZ hy))
    simp only[df] at hv ⊢;push_cast at hv ⊢;omega
  ·simp only[df];push_cast;omega
theorem match_ok {X y:List Int} (hX:X.length≤100) (hy:y.length≤100) (hVX:∀a∈X,V a) (hV:∀a∈y,V a) :
 ∀(n k:Nat) (u:List Bool) (K:Int×List Bool→Option ρ),k≤X.length→X.length<k+n→u.length=y.length→ZQ rm X y n (k:Int) u K=K (jL R (X.drop k) y u,u):=by
 intro n
 induction n with
 |zero=>intro k u K h1 h2; omega
 |succ n ih =>
  intro k u K h1 h2 hu;unfold ZQ;rcases Nat.lt_or_ge k X.length with h|h
  ·have hg:X[k]?=some X[k]:=cO h;have ha:V X[k]:=hVX _ (eE h);have hd:X.drop k=X[k]::X.drop (k+1):=eZ h
   have hdl:(X.drop (k+1)).length≤100:=by simp; omega
   have hVd:∀a∈X.drop (k+1),V a:=fun a hm=>hVX a (List.mem_of_mem_drop hm);have hb0:=hR.bd X[k] 0 ha hR.zero;have hmb:=fun u=>Oj hR hV (X.drop (k+1)) u hVd;have hm0:=hmb u;rw[Ó (show ieq (k:Int) (Õ X)=false by rw[å]; exact beq_eq_false_iff_ne.2 (by omega)),É hg,hR.run _ _ ha hR.zero,Í h (by omega)];rw[show(k:Int)+1=((k+1:Nat):Int) by push_cast; rfl,ih (k+1) u _ h (by omega) hu];dsimp only;rw[Ö (by omega) (by omega),hd]
   -- the loop
   have hfb:∀i,-((1+100+100)*9007199254740992)≤((List.range y.length).take i).foldl (Vk R X[k] (jL R (X.drop (k+1)) y) y u) (R X[k] 0+jL R (X.drop (k+1)) y u)∧((List.range y.length).take i).foldl (Vk R X[k] (jL R (X.drop (k+1)) y) y u) (R X[k] 0+jL R (X.drop (k+1)) y u)≤(1+100+100)*9007199254740992:=fun i=>by
    refine adG (fun v i hv=>?_) _ _ (by omega);unfold Vk
    split
    ·exact hv
    ·have h1:=hmb (u.set i true)
     have h2 : -9007199254740992≤R X[k] (y[i]?.getD 0)∧R X[k] (y[i]?.getD 0)≤9007199254740992:=by
      cases hy:y[i]? with
      |none=>exact hR.bd _ 0 ha hR.zero
      |some n=>exact hR.bd _ n ha (hV n (cZ hy))
     omega
   refine ł (fun v:Int×Int×List Bool=>∃i:Nat,i≤y.length∧v=(((List.range y.length).take i).foldl (Vk R X[k] (jL R (X.drop (k+1)) y) y u) (R X[k] 0+jL R (X.drop (k+1)) y u),(i:Int),u)) (fun v=>y.length-v.2.1.toNat) ?_ ⟨0,by omega,rfl⟩;rintro v ⟨i,hi,rfl⟩;rcases dE i y.length with h3|h3
   ·have hgy:y[i]?=some y[i]:=cO h3;have hgu:u[i]?=some (u[i]'(by omega)):=cO (by omega);have hvy:V y[i]:=hV _ (eE h3)
    have hgr:(List.range y.length)[i]?=some i:=by rw[fT h3]
    have hv:=hfb i;refine .inr ⟨(((List.range y.length).take (i+1)).foldl (Vk R X[k] (jL R (X.drop (k+1)) y) y u) (R X[k] 0+jL R (X.drop (k+1)) y u),((i+1:Nat):Int),u),⟨i+1,h3,rfl⟩,by simp; omega,fun kn=>?_⟩;rw[take_succ hgr,List.foldl_append];simp only[List.foldl_cons,List.foldl_nil];generalize ((List.range y.length).take i).foldl (Vk R X[k] (jL R (X.drop (k+1)) y) y u) (R X[k] 0+jL R (X.drop (k+1)) y u)=v at hv;unfold anC;rw[Ô h3,É hgy,HB,É hgu];unfold Vk;rw[hgu,hgy];simp only[Option.getD_some]
    cases hui:u[i]'(by omega) with
    |true =>
     rw[Ō,Í h3 (by omega),if_pos rfl];rfl
    |false =>
     have hmi:=hmb (u.set i true);have hby:=hR.bd X[k] y[i] ha hvy
     have hgs:(u.set i true)[i]?=some true:=by rw[List.getElem?_set_self (by omega)]
     rw[é,HB,É hgu,É hg,hR.run _ _ ha hvy,Í h (by omega),Int.toNat_natCast];rw[show(k:Int)+1=((k+1:Nat):Int) by push_cast; rfl,ih (k+1) _ _ h (by omega) (by rw[List.length_set]; exact hu)];dsimp only;rw[Ö (by omega) (by omega),show ë ((ile (0:Int) (i:Int))&&(ilt (i:Int) (ă (u.set i true)))) (ĩ (u.set i true) i fun _=>ck ((i:Int)+(1:Int)) fun n=>kn (Ea v (R X[k] y[i]+jL R (X.drop (k+1)) y (u.set i true)),n,List.set (u.set i true) i false))=ò (u.set i true) (i:Int) fun _=>ck ((i:Int)+(1:Int)) fun n=>kn (Ea v (R X[k] y[i]+jL R (X.drop (k+1)) y (u.set i true)),n,List.set (u.set i true) i false) from HB _ _ _];rw[É hgs,Í h3 (by omega),D9,if_neg (by simp),List.set_set]
     have hself:u.set i false=u:=by
      have:=gJ (as:=u) (i:=i) (by omega);rw[hui] at this;exact this
     rw[hself];rfl
   ·refine .inl fun kn=>?_
    obtain rfl:i=y.length:=by omega
    dsimp only;unfold anC;rw[â];rw[show(List.range y.length).take y.length=List.range y.length from List.take_of_length_le (by simp)];rfl
  ·have:k=X.length:=by omega
   subst this;rw[Ù (show ieq ((X.length:Nat):Int) (Õ X)=true by rw[å]; exact beq_self_eq_true _),anD hR (by omega) hV hu,gI];rfl
theorem am4 {x y:List Int} (hx:x.length≤3) (hy:y.length≤100) (hVX:∀a∈x,V a) (hV:∀a∈y,V a):Τ rm x y=some (jL R x y (List.replicate y.length false)):=by
 rw[ak4,å,dt,Ī (by simp only[ile]; rw[Ø (by omega)]; simp)];have:=match_ok (ρ:=Int) hR (by omega) hy hVX hV 4 0 (List.replicate y.length false) (fun z=>some z.1) (by omega) (by omega) (by simp);exact this
end
theorem Y4 {B:Þ} (h:ahk B):RmOk (B,NH B) (fun a b=>QZ B b a) (fun a=>0≤a∧a<((Î B).length+1:Nat)) :=
 ⟨fun a b ha hb _ K=>by rw[ur h ha hb,À],fun a b ha hb=>Ee h hb ha,ψ B⟩
def ajd {ρ:Type} (ns:List (Int×Int)) (n:Int):@kZ ρ ns n=@Ĉ ρ n ns:=(show @kZ ρ ns n=@pA ρ ns n from rfl).trans (ahQ ns n)
def ah1 {ρ:Type} {b:Þ} (hI:In b) {ns:List (Int×Int)} (hl:ns.length≤1000) {E0:Int→Option ρ} {E1:Int×Flat→Option ρ} {E2:Flat→Sys×List (Int×Int)×Int→Option ρ} {E3:Flat→Sys×List (Int×Int)×Int→Bool×Int→Option ρ}
 {K:Flat→Sys×List (Int×Int)×Int→Bool×Int→Option ρ} (R:Int→Option ρ) (h0:∀e,e≠0→E0 e=R e) (h1:∀z,z.1≠0→E1 z=R z.1) (h3:∀z s r,E3 z s r=R 9) :
 ifb (ine (ã b) (0:Int)) (E0 (ã b)) (akR ns E1 (fun z8=>Â (ē ((z8.1,z8.2.1),z8.2.2)) fun r9=>ifb (ine r9.2.2 (0:Int)) (E2 z8 r9) (Â (ā r9.1) fun r10=>ifb (!r10.1) (E3 z8 r9 r10) (K z8 r9 r10))) b) =
 if (Ć b ns).2≠0 then R (Ć b ns).2 else K (flat (Ć b ns).1) ((((Î (Ć b ns).1).length:Int)+1,æ (Ć b ns).1),Ŕ (Ć b ns).1,0) (true,0):=by
 have:=ql hI hl R h0 h1 h3 (E2:=E2) (K:=K)
 rwa [ź hI.size hI.num,À] at this
def L8 (B:Þ) (p q:List Int):Int:=jL (fun a b=>QZ B b a) p q (List.replicate q.length false)
def atL (B:Þ) (ns:List (Int×Int)):List Int:=ns.map fun n=>sn B n.1 n.2
def adL (B:Þ) (f:Int×Int) (day:Int) (x y:List Int):Int×Int :=
 (max 0 ((x.length:Int)-1)*f.1-max 0 ((y.length:Int)-1)*f.2-L8 B (atL B (onP day y)) (atL B (onP day x)),max 0 ((x.length:Int)-1)*f.2-max 0 ((y.length:Int)-1)*f.1+L8 B (atL B (onP day x)) (atL B (onP day y)))
def argD (day:Int) (x y:List Int):Bool:=(ic x&&decide (x.length≤3))&&((ic y&&decide (y.length≤3))&&(decide (x.length+y.length≠0)&&(!(x.any fun i=>y.contains i)&&Ct day)))
def nD (b:Þ) (day:Int) (x y:List Int):(Int×Int)×Int :=
 if ã b≠0 then((0,0),ã b) else if argD day x y=false then((0,0),1) else
 if (Ć b (onP day (x++y))).2≠0 then((0,0),(Ć b (onP day (x++y))).2) else(adL (Ć b (onP day (x++y))).1 b.1 day x y,0)
def ajW {ρ:Type} {B:Þ} (h:ė B) (hn:∀g∈B.2.1,I64 g.2.2.2.2.1.1) (s:Sys) {ns:List (Int×Int)} (hl:ns.length≤1000) (K:List Int→Option ρ) :
 Ï (fun(v50:(Val (.pair tI (.slice tI)))) kk53=>iz (B,s) ns (Õ ns) v50.1 v50.2 (fun u51 u52=>kk53 (u51,u52)) K) ((0:Int),[])=K (atL B ns):=by
 refine ü ns (fun i=>atL B (ns.take i)) _ rfl (fun i n hi hg kn=>?_) (fun kn=>?_)
 ·try dsimp only
  unfold iz
  have hlt:(atL B (ns.take i)).length≤1000:=by simp[atL]; omega
  rw[Ô hi,É hg,LU h hn,À,Ø (by simp only[List.length_singleton]; omega),Am.iff_true,Í hi (by omega),take_succ hg];unfold atL;rw[List.map_append];rfl
 ·try dsimp only
  unfold iz;rw[â,List.take_length]
def ajc {ρ:Type}:@n0 ρ=@iz ρ:=rfl
def adS {ρ:Type} {x y:List Int} (hx:x.length≤1000) (hy:y.length≤1000) (K0:Int→Option ρ) (K1 K:Option ρ) (hK:∀j:Nat,K0 j=K) :
 Ï (fun(v112:Int) kk114=>la x (Õ x) y v112 (fun u113=>kk114 u113) K0 (fun _=>K1)) (0:Int)=if x.any (fun i=>y.contains i) then K else K1:=by
 refine ķ x (fun i=>y.contains i) K0 K K1 hK (fun i a hi ha kn=>?_) (fun kn=>?_)
 ·try dsimp only
  unfold la;rw[Ô hi,É ha,kH (by omega),À,Í hi (by omega)]
  cases y.contains a<;>rfl
 ·try dsimp only
  unfold la;rw[â]
def aeW {B:Þ} (h:ahk B) {p q:List (Int×Int)} (hp:p.length≤3) (hq:q.length≤3):Τ (B,NH B) (atL B p) (atL B q)=some (L8 B (atL B p) (atL B q))∧-60000000000000000≤L8 B (atL B p) (atL B q)∧L8 B (atL B p) (atL B q)≤60000000000000000:=by
 have hV:∀l:List (Int×Int),∀a∈atL B l,0≤a∧a<((Î B).length+1:Nat):=fun l a ha=>by
  obtain⟨n,_,rfl⟩:=d8.1 ha;exact ų B n
 have l1:(atL B p).length=p.length:=by simp[atL]
 have l2:(atL B q).length=q.length:=by simp[atL]
 refine⟨am4 (Y4 h) (by omega) (by omega) (hV p) (hV q),?_⟩;have:=Oj (Y4 h) (hV q) (atL B p) (List.replicate (atL B q).length false) (hV p);rw[l1,l2] at this;unfold L8;rw[l2];have h1:((p.length:Int)+q.length)*9007199254740992≤6*9007199254740992:=Int.mul_le_mul_of_nonneg_right (by omega) (by omega);omega
def ab9 {b:Þ} (hI:In b) (day:Int) {x y:List Int} (hx:x.length≤1000) (hy:y.length≤1000):oG b day x y=some (nD b day x y):=by
 unfold oG Jn nD;rw[ź hI.size hI.num,À]
 by_cases hc:ã b=0
 case neg=>rw[Ù (bne_iff_ne.2 hc),if_pos hc]
 have hg:=(ä b).1 hc;rw[Ó (by rw[hc]; rfl),if_neg (show ¬(ã b≠0) by simp[hc])];have px:=Vn (l:=x) (by omega) 3;have py:=Vn (l:=y) (by omega) 3
 have ex:(ic x&&decide ((x.length:Int)≤3))=(ic x&&decide (x.length≤3)):=by congr 1; exact decide_eq_decide.2 (by omega)
 have ey:(ic y&&decide ((y.length:Int)≤3))=(ic y&&decide (y.length≤3)):=by congr 1; exact decide_eq_decide.2 (by omega)
 rw[ex] at px;rw[ey] at py;rw[px,py,ahE];simp only[À];refine(adS hx hy _ _ (some (((0,0):Int×Int),(1:Int))) (fun j=>?_)).trans ?_
 ·cases h1:(ic x&&decide (x.length≤3)) with
  |false=>rfl
  |true =>
   cases h2:(ic y&&decide (y.length≤3)) with
   |false=>rfl
   |true =>
    simp only[cR,decide_eq_true_eq] at h1 h2;rw[dN,é,é,å,å,Ö (by omega) (by omega)]
    by_cases h3:x.length+y.length=0
    ·rw[Ù (show ieq ((x.length:Int)+y.length) 0=true from beq_iff_eq.2 (by omega))]
    ·rw[Ó (show ieq ((x.length:Int)+y.length) 0=false from beq_eq_false_iff_ne.2 (by omega)),Ù (show ige (j:Int) 0=true from decide_eq_true (by omega))]
 unfold argD
 cases h4:x.any (fun i=>y.contains i) with
 |true=>rw[if_pos rfl,if_pos (by simp)]
 |false =>
  rw[if_neg (by simp)]
  cases h1:(ic x&&decide (x.length≤3)) with
  |false=>rfl
  |true =>
   cases h2:(ic y&&decide (y.length≤3)) with
   |false=>rfl
   |true =>
    simp only[cR,decide_eq_true_eq] at h1 h2;rw[dN,é,é,å,å,Ö (by omega) (by omega)]
    by_cases h3:x.length+y.length=0
    ·rw[Ù (show ieq ((x.length:Int)+y.length) 0=true from beq_iff_eq.2 (by omega)),if_pos (by simp[h3])]
    rw[Ó (show ieq ((x.length:Int)+y.length) 0=false from beq_eq_false_iff_ne.2 (by omega))]
    cases h5:Ct day with
    |false=>rw[f7,Ō,if_pos (by simp)]
    |true =>
     rw[dN,é,if_neg (by rw[show decide (x.length+y.length≠0)=true from decide_eq_true h3]; simp)];rw[Ep (by simp) (by simp; omega),À,Ep (by simp) (by simp; omega),Ep (by simp) (by simp; omega)];rw[show([x,y]:List (List Int)).flatten=x++y by simp,show([x]:List (List Int)).flatten=x by simp,show([y]:List (List Int)).flatten=y by simp];simp only[ajd];refine(ah1 hI (ns:=onP day (x++y)) (by simp[onP]; omega) (E0:=fun e=>ifb (ine e (0:Int)) (some (((0,0):Int×Int),e)) (Â (some (onP day x)) fun _=>none)) (E1:=fun z=>ifb (ine z.1 (0:Int)) (some (((0,0):Int×Int),z.1)) (Â (some (onP day x)) fun _=>none)) (fun e=>some (((0,0):Int×Int),e)) (fun e he=>by rw[Ù (by simp[ine,he])]) (fun z he=>by rw[Ù (by simp[ine,he])]) (fun _ _ _=>rfl)).trans ?_
     split
     ·rfl
     ·rename_i e;have hr:=(iO hI (by simpa using e)).1;have hf:=hg.film;dsimp only;generalize (Ć b (onP day (x++y))).1=B at hr ⊢;rw[À,vM,show((((Î B).length:Int)+1,æ B):Sys)=NH B from rfl];refine(ajW hr.good hr.num _ (by simp[onP]; omega) _).trans ?_;rw[À];simp only[ajc];refine(ajW hr.good hr.num _ (by simp[onP]; omega) _).trans ?_;obtain⟨m1,m2,m3⟩:=aeW hr (p:=onP day x) (q:=onP day y) (by simp[onP]; omega) (by simp[onP]; omega);obtain⟨m4,m5,m6⟩:=aeW hr (p:=onP day y) (q:=onP day x) (by simp[onP]; omega) (by simp[onP]; omega)
      have hm:∀k z:Int,0≤k→k≤3→0≤z→z≤1000000→0≤k*z∧k*z≤10000000:=by
       intro k z k0 k1 h0 h1;have:k*z≤3*1000000:=fj k1 h1 h0 (by omega);exact⟨fG k0 h0,by omega⟩
      have a1:=hm (max 0 ((x.length:Int)-1)) b.1.1 (by omega) (by omega) (by omega) (by omega);have a2:=hm (max 0 ((x.length:Int)-1)) b.1.2 (by omega) (by omega) (by omega) (by omega);have a3:=hm (max 0 ((y.length:Int)-1)) b.1.1 (by omega) (by omega) (by omega) (by omega);have a4:=hm (max 0 ((y.length:Int)-1)) b.1.2 (by omega) (by omega) (by omega) (by omega);rw[Ö (by omega) (by omega),Ö (by omega) (by omega)];simp only[XT];rw[Ö (by omega) (by omega),Ö (by omega) (by omega),Ö (by omega) (by omega),m4,À,Ö (by omega) (by omega),Ö (by omega) (by omega),Ö (by omega) (by omega),Ö (by omega) (by omega),m1,À,Ö (by omega) (by omega)];rfl
theorem Vl {b:Þ} (h:ė b):(Ŕ b).length=(æ b).length:=by
 have g0:∀i,((b.2.1.take i).mapIdx (ø b)).flatten.length=((b.2.1.take i).flatMap (ú b)).length:=by
  intro i
  induction i with
  |zero=>simp
  |succ i ih =>
   rcases dE i b.2.1.length with hi|hi
   ·have hg:b.2.1[i]?=some b.2.1[i]:=List.getElem?_eq_getElem hi;rw[iy _ hg,take_succ hg,List.flatMap_append,List.flatten_append,List.length_append,List.length_append,ih];congr 1;unfold ø ú;simp only[List.flatMap_cons,List.flatMap_nil,List.append_nil,List.flatten_cons,List.flatten_nil,List.length_append];rw[ŭ _ _ (fun _=>rfl),ŭ _ _ (fun _=>rfl)];rfl
   ·rw[dV (by omega)] at ih ⊢;exact ih
 have c0:=U8 (b:=b) b.2.2.2.2.1.length (Nat.le_refl _);have g1:=g0 b.2.1.length;rw[List.take_length] at c0 g1;unfold Ŕ æ;rw[List.length_append,List.length_append,g1,c0.1,c0.2]
theorem abl {b:Þ}:∀s∈(b.2.1.mapIdx (ø b)).flatten,(s.1=1∨s.1=2)∧0≤s.2∧s.2<b.2.1.length:=by
 intro s hs;obtain⟨l,hl,hm⟩:=List.mem_flatten.1 hs;obtain⟨i,hi,rfl⟩:=List.mem_iff_getElem.1 hl;rw[List.length_mapIdx] at hi;rw[List.getElem_mapIdx] at hm;unfold ø at hm;rcases List.mem_append.1 hm with h|h
 ·simp at h; subst h; exact⟨.inl rfl,by dsimp only; omega,by dsimp only; omega⟩
 ·obtain⟨_,_,h⟩:=List.mem_flatMap.1 h;simp at h; subst h; exact⟨.inr rfl,by dsimp only; omega,by dsimp only; omega⟩
theorem abI {l:List Cmp}:∀s∈(l.mapIdx fun i (_:Cmp)=>[((3:Int),(i:Int)),((3:Int),(i:Int))]).flatten,s.1=3∧0≤s.2∧s.2<l.length:=by
 intro s hs;obtain⟨m,hl,hm⟩:=List.mem_flatten.1 hs;obtain⟨i,hi,rfl⟩:=List.mem_iff_getElem.1 hl;rw[List.length_mapIdx] at hi;rw[List.getElem_mapIdx] at hm;simp at hm; subst hm;exact⟨rfl,by dsimp only; omega,by dsimp only; omega⟩
theorem ak6 (b:Þ) (c:Cmp):∃S:List (Int×Int),Ŕ (î b c)=S++[(3,(b.2.2.2.2.1.length:Int)),(3,(b.2.2.2.2.1.length:Int))]∧∀s∈S,¬(s.1=3∧s.2=(b.2.2.2.2.1.length:Int)):=by
 refine⟨((î b c).2.1.mapIdx (ø (î b c))).flatten++(b.2.2.2.2.1.mapIdx fun i (_:Cmp)=>[((3:Int),(i:Int)),((3:Int),(i:Int))]).flatten,?_,fun s hs=>?_⟩
 ·unfold Ŕ;rw[show(î b c).2.2.2.2.1=b.2.2.2.2.1++[c] from rfl,List.mapIdx_append,List.flatten_append,List.append_assoc];simp
 ·rcases cY.1 hs with h|h
  ·have:=abl s h; omega
  ·have:=abI s h; omega
theorem UJ (b:Þ) (c:Cmp) (h:ė (î b c)):æ (î b c)=û (î b c)++[(cy (î b c) c,cx (î b c) c,(Ν (î b c) c).2),(cx (î b c) c,cy (î b c) c,-(Ν (î b c) c).1)]:=by
 rw[adD];unfold æ;rw[show(î b c).2.2.2.2.1=b.2.2.2.2.1++[c] from rfl,List.flatMap_append,List.append_assoc];simp[ą]
def amp (b:Þ) (c:Cmp) (s t:Int):Int:=dst (û (î b c)) ((Î (î b c)).length+1) s t
abbrev End:Type:=Int×Int×Int
abbrev Ko:Type:=(Int×Int)×End×End
def endP (b:Þ) (c:Cmp) (s t:Int):End :=
 (amp b c s t,amp b c s (cy (î b c) c)+(Ν b c).2+amp b c (cx (î b c) c) t,amp b c s (cx (î b c) c)-(Ν b c).1+amp b c (cy (î b c) c) t)
def worth0:Ko:=((0,0),(0,0,0),(0,0,0))
def YE (b:Þ) (n:Int×Int) (c:Cmp):Ko :=
 ((Ĵ b c).1,endP b (Ê c) 0 (sn (î b (Ê c)) n.1 n.2),endP b (Ê c) (sn (î b (Ê c)) n.1 n.2) 0)
def XQ (b:Þ) (n:Int×Int) (c:Cmp):Ko×Int:=if (Ĵ b c).2≠0 then(worth0,(Ĵ b c).2) else(YE b n c,0)
theorem KA {b:Þ} {c:Cmp} (h:(Ĵ b c).2=0):ŏ (æ b) ((Î b).length+1)=true:=by
 obtain⟨g1,g2⟩:=ov h;rw[Rz g1 g2] at h
 by_cases ho:ŏ (æ b) ((Î b).length+1)=true
 ·exact ho
 ·rw[if_neg ho] at h; cases h
section
variable {b:Þ} {c:Cmp} (h:ė b) (h':ė (î b c)) (ho:ŏ (æ b) ((Î b).length+1)=true)
include h h' ho
theorem se {s t:Int} (hs:0≤s∧s<((Î (î b c)).length+1:Nat)) (ht:0≤t∧t<((Î (î b c)).length+1:Nat)) : -9007199254740992≤amp b c s t∧amp b c s t≤9007199254740992 :=
 afk (jz h') (jQ h') (by rw[pG h h']; exact ho) hs ht
theorem tV (B:Þ) {s t:Int} (hs:0≤s∧s<((Î (î b c)).length+1:Nat)) (ht:0≤t∧t<((Î (î b c)).length+1:Nat)):Ë (B,(((Î (î b c)).length:Int)+1,û (î b c))) t s=some (amp b c s t):=by
 rw[show(((Î (î b c)).length:Int)+1)=(((Î (î b c)).length+1:Nat):Int) by push_cast; rfl,abY (jz h') ht hs,AD (jz h') (jQ h') hs ht,if_pos (by rw[pG h h']; exact ho)];rfl
theorem ahF:(-4503599627370496≤(Ν b c).1∧(Ν b c).1≤4503599627370496)∧(-4503599627370496≤(Ν b c).2∧(Ν b c).2≤4503599627370496):=by
 have hs:=h'.sys;have e:=UJ b c h';have m1:=hs.most (cy (î b c) c,cx (î b c) c,(Ν (î b c) c).2) (by rw[e]; simp);have m2:=hs.most (cx (î b c) c,cy (î b c) c,-(Ν (î b c) c).1) (by rw[e]; simp);have e2:Ν (î b c) c=Ν b c:=rfl;rw[e2] at m1 m2;dsimp only at m1 m2;omega
theorem afg (B:Þ) {s t:Int} (hs:0≤s∧s<((Î (î b c)).length+1:Nat)) (ht:0≤t∧t<((Î (î b c)).length+1:Nat)) :
 ng t s (B,(((Î (î b c)).length:Int)+1,û (î b c))) (cy (î b c) c) (Ν b c) (cx (î b c) c)=some (endP b c s t):=by
 have hx:=Cv h';have hy:=Cu h';have b1:=se h h' ho hs ht;have b2:=se h h' ho hs hy;have b3:=se h h' ho hx ht;have b4:=se h h' ho hs hx;have b5:=se h h' ho hy ht;have b6:=ahF h h' ho;unfold ng yd;rw[tV h h' ho B hs ht,À,tV h h' ho B hs hy,À,Ö (by omega) (by omega),tV h h' ho B hx ht,À,Ö (by omega) (by omega),tV h h' ho B hs hx,À,Ö (by omega) (by omega),tV h h' ho B hy ht,À,Ö (by omega) (by omega)];rfl
end
theorem Zd {B:Þ} (h:ė B) (hn:∀g∈B.2.1,I64 g.2.2.2.2.1.1) (s:Sys) (l:List Int) (c:Cmp):nh l (B,s) c=some (atP (Î B) l c.2.1):=by
 unfold nh ye
 cases l with
 |nil=>rw[å]; rfl
 |cons x t =>
  rw[å,Ó (beq_eq_false_iff_ne.2 (by simp; omega)),show(0:Int)=((0:Nat):Int) from rfl,É (show(x::t)[0]?=some x from rfl),LU h hn,À];rfl
theorem aiY {ρ:Type} {b:Þ} {c:Cmp} (h:ė (î b c)) (K:List Lk→Option ρ) :
 Ï (fun(v17:Val Ò) kk20=>kY (b.2.2.2.2.1.length:Int) (Ŕ (î b c)) (æ (î b c)) (Õ (æ (î b c))) v17.1 v17.2 (fun u18 u19=>kk20 (u18,u19)) K) ((0:Int),[])=K (û (î b c)):=by
 have hl3:=h.sys.len;have hsl:=Vl h;obtain⟨S,hS,hSk⟩:=ak6 b c;have hL:=UJ b c h
 have hSl:S.length=(û (î b c)).length:=by
  rw[hS,hL,cW,cW] at hsl;simpa using hsl
 generalize û (î b c)=H at hL hSl ⊢;rw[hS];generalize æ (î b c)=L at hL hsl hl3 ⊢
 have hLl:L.length=H.length+2:=by rw[hL]; simp
 refine ü L (fun i=>(L.take i).take H.length) _ (by simp) (fun i l hi hl kn=>?_) (fun kn=>?_)
 ·try dsimp only
  unfold kY;rw[Ô hi,É hl];rcases Nat.lt_or_ge i H.length with h1|h1
  ·have hs:(S++[((3:Int),(b.2.2.2.2.1.length:Int)),(3,(b.2.2.2.2.1.length:Int))])[i]?=some S[i]:=by
    rw[gr (by omega),cO]
   have hk:=hSk S[i] (eE _)
   have e:((Ħ (S[i]).1 (3:Int))&&((Ħ (S[i]).2 (b.2.2.2.2.1.length:Int))&&true))=false:=by
    simp[Ħ]; omega
   have e1:(L.take i).take H.length=L.take i:=dV (by rw[di]; omega);have e2:(L.take (i+1)).take H.length=L.take (i+1):=dV (by rw[di]; omega);rw[É hs,e,Ù (by rfl),e1,e2,Ī (Ø (by rw[di]; simp; omega)),Í hi (by omega),take_succ hl]
  ·have hs:(S++[((3:Int),(b.2.2.2.2.1.length:Int)),(3,(b.2.2.2.2.1.length:Int))])[i]?=some ((3:Int),(b.2.2.2.2.1.length:Int)):=by
    rw[gg (by omega)]
    have:i-S.length=0∨i-S.length=1:=by omega
    rcases this with e|e<;>rw[e]<;>rfl
   have e:((Ħ (3:Int) (3:Int))&&((Ħ (b.2.2.2.2.1.length:Int) (b.2.2.2.2.1.length:Int))&&true))=true:=by simp[Ħ]
   have e1:(L.take i).take H.length=(L.take (i+1)).take H.length:=by
    rw[List.take_take,List.take_take];congr 1;omega
   rw[É hs];dsimp only;rw[e,Ó (by rfl),Í hi (by omega),e1]
 ·try dsimp only
  unfold kY;rw[â,List.take_length,hL];simp
theorem abe {B:Þ} (hr:ahk B) (n:Int×Int) {c:Cmp} (hA:c.2.2.1.length≤1000) (hB:c.2.2.2.1.length≤1000):t8 (B,NH B) n c=some (XQ B n c):=by
 unfold t8 Jd XQ;have hs:=hr.good.size;rw[show(B,NH B).1=B from rfl,ahb hs hr.num hA hB,À]
 by_cases hp:(Ĵ B c).2=0
 ·obtain⟨g1,g2⟩:=ov hp;have ho:=KA hp
  have e1:zB B (Ê c)=(î B (Ê c),0):=by
   unfold zB;rw[if_neg (by simp[(ä B).2 g1]),if_neg (by simp[(ä _).2 g2])]
  have hn2:∀g∈(î B (Ê c)).2.1,I64 g.2.2.2.2.1.1:=hr.num;have hC:=g2.nC
  have hw:(((î B (Ê c)).2.2.2.2.1.length:Int)-1)=(B.2.2.2.2.1.length:Int):=by simp[î]
  have hSays:al4 (î B (Ê c)) (B.2.2.2.2.1.length:Int)=(Ν B (Ê c),0):=by
   have e:sq (î B (Ê c)) (B.2.2.2.2.1.length:Int)=(Ê c,0):=by
    unfold sq;rw[if_neg (by simp[(ä _).2 g2]),if_neg (by simp[î]; omega)];simp[î]
   unfold al4;rw[e,if_neg (by simp)];rfl
  have hCancel:RC c.2.2.1 c.2.2.2.1=(ê c.2.2.1 c.2.2.2.1,ê c.2.2.2.1 c.2.2.1,0):=by
   have hnu:=(Ο _).1 (g2.nums (zK (c:=Ê c)));have h6:ic c.2.2.1=true∧ic c.2.2.2.1=true:=⟨hnu.2.2.2.2.2.1,hnu.2.2.2.2.2.2⟩;unfold RC;rw[h6.1,h6.2];rfl
  rw[Ó (by rw[hp]; rfl),if_neg (by simp[hp]),show ol B (c.1,c.2.1,c.2.2.1,c.2.2.2.1,(0:Int),c.2.2.2.2.2)=ol B (Ê c) from rfl,aj3 hs hr.num (c:=Ê c) hA hB,À,e1];dsimp only;rw[Ó (by rfl),å,hw,Ö (by omega) (by omega),anH (g2.inn hn2),À,hSays,acd (by omega) (by omega),À,hCancel,pW (g2.inn hn2),À,jr g2];dsimp only;refine(aiY g2 _).trans ?_;have ex:cx (î B (Ê c)) (Ê c)=atP (Î (î B (Ê c))) (ê c.2.2.1 c.2.2.2.1) c.2.1:=rfl;have ey:cy (î B (Ê c)) (Ê c)=atP (Î (î B (Ê c))) (ê c.2.2.2.1 c.2.2.1) c.2.1:=rfl;rw[Zd g2 hn2,À,Zd g2 hn2,À,LU g2 hn2,À,←ex,←ey,afg g1 g2 ho _ (ψ _) (ų _ n),À,afg g1 g2 ho _ (ų _ n) (ψ _),À];rfl
 ·rw[Ù (bne_iff_ne.2 hp),if_pos hp];rfl
def ahH {α:Type} [DecidableEq α] {l m:List α} (hl:l.length=m.length) (h:ī (fun i a=>if m[i]?=some a then none else some false) 0 l=none):l=m:=by
 have:=iE.1 h;refine List.ext_getElem hl fun i h1 h2=>?_;have h3:=this i l[i] (cO h1);rw[dm] at h3
 split at h3
 ·rename_i h4;rw[cO h2] at h4;exact(Option.some.inj h4).symm
 ·cases h3
def ahG {α:Type} [DecidableEq α] {l m:List α} {b:Bool} (h:ī (fun i a=>if m[i]?=some a then none else some false) 0 l=some b):b=false∧l≠m:=by
 constructor
 ·have:∀(k:Nat) (x:List α) (b:Bool),ī (fun i a=>if m[i]?=some a then none else some false) k x=some b→b=false:=by
   intro k x
   induction x generalizing k with
   |nil=>intro b h; cases h
   |cons a t ih =>
    intro b h;unfold ī at h
    split at h
    ·rename_i c hc
     split at hc
     ·cases hc
     ·cases hc; cases h; rfl
    ·exact ih _ _ h
  exact this _ _ _ h
 ·intro e;subst e;rw[iE.2 fun j a ha=>by rw[dm,if_pos ha]] at h;cases h
section
variable {b:Þ} {c d:Cmp} {s:Int×Int}
def amT (h:Pred b c s) : -10000000000000000≤s.1∧s.1≤s.2∧s.2≤10000000000000000:=by
 have q:=h.good2.cmp (zK (c:=Ê c));obtain⟨_,_,b1,b2,b3⟩:=xg (b:=b) h.good.film (c:=Ê c) ⟨q.nums,q.r1,q.r2⟩;have e1:adx b c=Kg (ĸ b (Ê c)).1+(jG b (Ê c)).1-(Ê c).2.2.2.2.2.1:=rfl;have e2:Eb b c=(ĸ b (Ê c)).2.1 / (ĸ b (Ê c)).2.2+(jG b (Ê c)).2+(Ê c).2.2.2.2.2.1:=rfl;have o:=h.order;have n:=h.ends;have bd:=h.bd;omega
end
def κ (e:End):List Int:=[e.1-e.2.1,e.2.2-e.1,Int.tdiv (e.2.2-e.2.1) 2,Int.tdiv (e.2.2-e.2.1) 2-1,Int.tdiv (e.2.2-e.2.1) 2+1]
def sM (e:End) (n:Int):List Int:=[n-e.2.1,e.2.2-n]
def atE (e:End) (d:Int):Int:=min e.1 (min (e.2.1+d) (e.2.2-d))
def NQ (w:Ko) (d:Int):Int×Int:=(-(atE w.2.2 d),atE w.2.1 d)
def agu (r:Int×Int) (n:Int):List Int:=[n-2,n-1,n,n+1,n+2].filter fun d=>decide (r.1<d)&&decide (d<r.2)
def RK (r:Int×Int) (l:List Int):List Int:=[r.1,r.2]++l.flatMap (agu r)
def aek (w:Ko) (l:List Int):Int:=l.foldl (fun m d=>max m ((NQ w d).2-(NQ w d).1)) (-1)
def ahn (w:Ko):Int:=aek w (RK w.1 (κ w.2.1++κ w.2.2))
def Sm (n:Int):Prop:=-100000000000000000≤n∧n≤100000000000000000
structure YA (e:End):Prop where
 s:Sm e.1
 u:Sm e.2.1
 d:Sm e.2.2
structure Yv (w:Ko):Prop where
 lo:Sm w.1.1
 hi:Sm w.1.2
 high:YA w.2.1
 low:YA w.2.2
def YQ (n:Int) : -1≤n-2*Int.tdiv n 2∧n-2*Int.tdiv n 2≤1:=by
 have h1:=Int.tmod_add_mul_tdiv n 2;have h2:=Int.tmod_two_eq n;omega
def M9 {e:End} (h:YA e):iF e=some (κ e):=by
 obtain⟨⟨a1,a2⟩,⟨b1,b2⟩,c1,c2⟩:=h;have h2:=YQ (e.2.2-e.2.1);unfold iF uU;rw[Ö (by omega) (by omega),Ö (by omega) (by omega),Ö (by omega) (by omega),Ö (by omega) (by omega),Ö (by omega) (by omega),Ö (by omega) (by omega)];rfl
def Nn {e:End} (h:YA e) {n:Int} (hn : -1000000000000000000≤n∧n≤1000000000000000000):iG e n=some (sM e n):=by
 obtain⟨⟨a1,a2⟩,⟨b1,b2⟩,c1,c2⟩:=h;unfold iG uV;rw[Ö (by omega) (by omega),Ö (by omega) (by omega)];rfl
def amD {e:End} (h:YA e) {d:Int} (hd:Sm d):ue e d=some (atE e d):=by
 obtain⟨⟨a1,a2⟩,⟨b1,b2⟩,c1,c2⟩:=h;obtain⟨d1,d2⟩:=hd;unfold ue Jg;rw[Ö (by omega) (by omega),Ö (by omega) (by omega),D9,D9];unfold atE;congr 1;omega
def ajY {e:End} (h:YA e) {d:Int} (hd:Sm d) : -200000000000000000≤atE e d∧atE e d≤100000000000000000:=by
 obtain⟨⟨a1,a2⟩,⟨b1,b2⟩,c1,c2⟩:=h;obtain⟨d1,d2⟩:=hd;unfold atE;omega
def ahA {w:Ko} (h:Yv w) {d:Int} (hd:Sm d):ō w d=some (NQ w d):=by
 unfold ō rJ;have b1:=ajY h.low hd;rw[amD h.low hd,À,Ö (by omega) (by omega),amD h.high hd,À];unfold NQ;rw[Int.zero_sub]
def alm (r:Int×Int) (n:Int):(agu r n).length≤5:=dJ _ _
def QL (r:Int×Int):∀l:List Int,(l.flatMap (agu r)).length≤l.length*5
 |[]=>by simp
 |n::l=>by
  have h1:=alm r n;have h2:=QL r l;rw[dU,cW,df];omega
def am3 {ρ:Type} (r:Int×Int) {n:Int} (hn : -4000000000000000000≤n∧n≤4000000000000000000) {out:List Int} (ho:out.length≤1000) (K:List Int→Option ρ) :
 Ï (fun(v9:(Val (.pair tI (.slice tI)))) kk12=>gX n r.1 r.2 v9.1 v9.2 (fun u10 u11=>kk12 (u10,u11)) K) (n-2,out)=K (out++agu r n):=by
 let five:List Int:=[n-2,n-1,n,n+1,n+2]
 have hg:∀(i:Nat),i<5→five[i]?=some (n-2+i):=by
  intro i hi
  have:i=0∨i=1∨i=2∨i=3∨i=4:=by omega
  rcases this with rfl|rfl|rfl|rfl|rfl<;>simp only[five,fk,List.getElem?_cons_succ]<;>congr 1<;>omega
 refine ł (fun v=>∃i:Nat,i≤5∧v=(n-2+(i:Int),out++(five.take i).filter fun d=>decide (r.1<d)&&decide (d<r.2))) (fun v=>(n+3-v.1).toNat) ?_ ⟨0,by omega,by simp⟩;rintro v ⟨i,hi,rfl⟩;rcases dE i 5 with h5|h5
 ·refine .inr ⟨(n-2+((i+1:Nat):Int),out++(five.take (i+1)).filter fun d=>decide (r.1<d)&&decide (d<r.2)),⟨i+1,h5,rfl⟩,by dsimp only; omega,fun kn=>?_⟩;have hl:((five.take i).filter fun d=>decide (r.1<d)&&decide (d<r.2)).length≤5:=pJ _ five i;dsimp only;unfold gX;rw[Ö (by omega) (by omega),Ù (decide_eq_true (by omega)),take_succ (hg i h5),List.filter_append]
  have e0:n-2+(i:Int)+1=n-2+((i+1:Nat):Int):=by push_cast; omega
  by_cases h1:r.1<n-2+(i:Int)
  ·rw[Ù (show igt (n-2+(i:Int)) r.1=true from decide_eq_true h1)]
   by_cases h2:n-2+(i:Int)<r.2
   ·rw[Ù (show ilt (n-2+(i:Int)) r.2=true from decide_eq_true h2),Ī (Ø (by rw[cW]; simp only[dF]; omega)),Ö (by omega) (by omega),e0];simp[h1,h2]
   ·rw[Ó (show ilt (n-2+(i:Int)) r.2=false from decide_eq_false h2),Ö (by omega) (by omega),e0];simp[h1,h2]
  ·rw[Ó (show igt (n-2+(i:Int)) r.1=false from decide_eq_false h1),Ö (by omega) (by omega),e0];simp[h1]
 ·refine .inl fun kn=>?_
  obtain rfl:i=5:=by omega
  dsimp only;unfold gX;rw[Ö (by omega) (by omega),Ó (decide_eq_false (by omega))];rfl
def aih (w:Ko) {l:List Int} (hl:l.length≤100) (hn:∀n∈l,-2000000000000000000≤n∧n≤2000000000000000000):jS w l=some (RK w.1 l):=by
 unfold jS rK;refine ü l (fun i=>[w.1.1,w.1.2]++(l.take i).flatMap (agu w.1)) _ rfl (fun i n hi ha kn=>?_) (fun kn=>?_)
 ·try dsimp only
  unfold jx;have hb:=hn n (List.mem_of_getElem? ha);have h5:=QL w.1 (l.take i)
  have ht:(l.take i).length≤100:=by rw[di]; omega
  rw[Ô hi,É ha,Ö (by omega) (by omega)];refine(am3 w.1 (by omega) (by rw[cW]; simp only[df,du]; omega) _).trans ?_;rw[Í hi (by omega),take_succ ha,eX,dn];simp
 ·try dsimp only
  unfold jx;rw[â,List.take_length];rfl
def ak3 {r:Int×Int} {l:List Int} {d:Int}:d∈RK r l↔d=r.1∨d=r.2∨(r.1<d∧d<r.2∧∃n∈l,n-2≤d∧d≤n+2):=by
 unfold RK agu;simp only[List.mem_append,List.mem_cons,List.not_mem_nil,or_false,List.mem_flatMap,List.mem_filter,Bool.and_eq_true,decide_eq_true_eq];constructor
 ·rintro((h|h)|⟨n,hn,h,h1,h2⟩)
  ·exact .inl h
  ·exact .inr (.inl h)
  ·exact .inr (.inr ⟨h1,h2,n,hn,by omega,by omega⟩)
 ·rintro(h|h|⟨h1,h2,n,hn,h3,h4⟩)
  ·exact .inl (.inl h)
  ·exact .inl (.inr h)
  ·exact .inr ⟨n,hn,by omega,h1,h2⟩
def aeV (r:Int×Int) {l:List Int} (hl:l.length≤100):(RK r l).length≤600:=by
 have:=QL r l;unfold RK;rw[List.length_append];simp only[List.length_cons,List.length_nil];omega
def aig {w:Ko} (h:Yv w) {l:List Int}:∀d∈RK w.1 l,Sm d:=by
 intro d hd;obtain⟨a1,a2⟩:=h.lo;obtain⟨b1,b2⟩:=h.hi;rcases ak3.1 hd with h|h|⟨h1,h2,_⟩
 ·rw[h]; exact⟨a1,a2⟩
 ·rw[h]; exact⟨b1,b2⟩
 ·exact⟨by omega,by omega⟩
def Na {e:End} (h:YA e):∀n∈κ e,-1000000000000000000≤n∧n≤1000000000000000000:=by
 obtain⟨⟨a1,a2⟩,⟨b1,b2⟩,c1,c2⟩:=h;have h2:=YQ (e.2.2-e.2.1);intro n hn;unfold κ at hn;simp only[List.mem_cons,List.not_mem_nil,or_false] at hn;omega
def akx {w:Ko} (h:Yv w):ln w=some (ahn w):=by
 unfold ln oW
 have hl:([κ w.2.1,κ w.2.2]:List (List Int)).flatten=κ w.2.1++κ w.2.2:=by simp
 have hll:(κ w.2.1++κ w.2.2).length=10:=rfl
 rw[M9 h.high,À,M9 h.low,À,oJ (by simp) (by rw[hl,hll]; omega),À,hl,aih w (by rw[hll]; omega) (fun n hn=>by
  rcases cY.1 hn with hn|hn
  ·have:=Na h.high n hn; omega
  ·have:=Na h.low n hn; omega),À]
 have hnl:=aeV w.1 (l:=κ w.2.1++κ w.2.2) (by rw[hll]; omega);have hsm:=aig h (l:=κ w.2.1++κ w.2.2);unfold ahn;generalize RK w.1 (κ w.2.1++κ w.2.2)=l at hnl hsm ⊢;refine ł (fun v=>∃i:Nat,i≤l.length∧v=(aek w (l.take i),(i:Int))) (fun v=>l.length-v.2.toNat) ?_ ⟨0,by omega,rfl⟩;rintro v ⟨i,hi,rfl⟩;rcases Nat.lt_or_ge i l.length with h2|h2
 ·have ha:l[i]?=some l[i]:=List.getElem?_eq_getElem h2;have hs:=hsm l[i] (List.getElem_mem _);generalize l[i]=d at ha hs;refine .inr ⟨(aek w (l.take (i+1)),((i+1:Nat):Int)),⟨i+1,h2,rfl⟩,by dsimp only; omega,fun kn=>?_⟩;dsimp only;unfold jb;have b1:=ajY h.low hs;have b2:=ajY h.high hs;rw[Ô h2,É ha,show ō ((w.1.1,w.1.2),(w.2.1.1,w.2.1.2.1,w.2.1.2.2),w.2.2.1,w.2.2.2.1,w.2.2.2.2) d=ō w d from rfl,ahA h hs,À,Ö (by unfold NQ; dsimp only; omega) (by unfold NQ; dsimp only; omega),Í h2 (by omega),XT,take_succ ha];unfold aek;rw[List.foldl_append];rfl
 ·refine .inl fun kn=>?_
  obtain rfl:i=l.length:=by omega
  dsimp only;unfold jb;rw[â,List.take_length]
def aej {b:Þ} {n:Int×Int} {c:Cmp} (hp:(Ĵ b c).2=0):Yv (YE b n c):=by
 obtain⟨g1,g2⟩:=ov hp;have ho:=KA hp;have hb:=amT (Zb hp);have hx:=Cv g2;have hy:=Cu g2;have b6:=ahF g1 g2 ho
 have key:∀{s t:Int},0≤s∧s<((Î (î b (Ê c))).length+1:Nat)→0≤t∧t<((Î (î b (Ê c))).length+1:Nat)→YA (endP b (Ê c) s t):=by
  intro s t hs ht;have b1:=se g1 g2 ho hs ht;have b2:=se g1 g2 ho hs hy;have b3:=se g1 g2 ho hx ht;have b4:=se g1 g2 ho hs hx;have b5:=se g1 g2 ho hy ht;unfold endP;exact⟨⟨by dsimp only; omega,by dsimp only; omega⟩,⟨by dsimp only; omega,by dsimp only; omega⟩,by dsimp only; omega,by dsimp only; omega⟩
 exact⟨⟨by show _≤(Ĵ b c).1.1; omega,by show(Ĵ b c).1.1≤_; omega⟩,⟨by show _≤(Ĵ b c).1.2; omega,by show(Ĵ b c).1.2≤_; omega⟩,key (ψ _) (ų _ n),key (ų _ n) (ψ _)⟩
def afG (b:Þ) (n:Int×Int) (c:Cmp):Int×Int :=
 if (Ć b [n]).2≠0 then(0,(Ć b [n]).2) else if (Ĵ (Ć b [n]).1 c).2≠0 then(0,(Ĵ (Ć b [n]).1 c).2) else(ahn (YE (Ć b [n]).1 n c),0)
def aky {ρ:Type}:@yh ρ=@Ĉ ρ:=rfl
def al3 {b:Þ} (hI:In b) (n:Int×Int) {c:Cmp} (hA:c.2.2.1.length≤1000) (hB:c.2.2.2.1.length≤1000):zj b n c=some (afG b n c):=by
 unfold zj Pr afG;rw[aky];refine(ql hI (ns:=[n]) (by simp) (fun e=>some ((0:Int),e)) (fun e he=>by rw[Ī (by simp[ine,he])]) (fun z he=>by rw[Ī (by simp[ine,he])]) (fun _ _ _=>rfl)).trans ?_
 split
 ·rfl
 ·rename_i e;have hr:=(iO hI (by simpa using e)).1;dsimp only;rw[vM,show((((Î (Ć b [n]).1).length:Int)+1,æ (Ć b [n]).1):Sys)=NH (Ć b [n]).1 from rfl,abe hr n hA hB,À];unfold XQ
  by_cases hp:(Ĵ (Ć b [n]).1 c).2=0
  ·rw[if_neg (by simp[hp]),if_neg (by simp[hp]),Ó (by rfl),akx (aej hp),À]
  ·rw[if_pos hp,if_pos hp,Ù (bne_iff_ne.2 hp)]
def ahh (x:Int):Int:=max (-288230376151711744) (min x 288230376151711744)
def CF (w:Ko) (l:Int×Int):List Int:=(κ w.2.1++κ w.2.2)++(sM w.2.1 l.1++sM w.2.2 (-l.1))++(sM w.2.1 l.2++sM w.2.2 (-l.2))
def aex (w:Ko) (l:Int×Int):Bool:=(RK w.1 (CF w l)).all fun d=>qe (NQ w d) l != 3
def NA (b:Þ) (n l:Int×Int) (c:Cmp):Bool×Int :=
 if (Ć b [n]).2≠0 then(false,(Ć b [n]).2) else if l.2<l.1 then(false,1) else if (Ĵ (Ć b [n]).1 c).2≠0 then(false,(Ĵ (Ć b [n]).1 c).2) else(aex (YE (Ć b [n]).1 n c) (ahh l.1,ahh l.2),0)
def afW {ρ:Type}:@rO ρ=@Ĉ ρ:=rfl
def ams (x:Int):lp x=some (ahh x):=by
 unfold lp uY ahh;rw[D9,XT]
def No {e:End} (h:YA e) {n:Int} (hn : -300000000000000000≤n∧n≤300000000000000000):∀m∈sM e n,-1000000000000000000≤m∧m≤1000000000000000000:=by
 obtain⟨⟨a1,a2⟩,⟨b1,b2⟩,c1,c2⟩:=h;intro m hm;unfold sM at hm;simp only[List.mem_cons,List.not_mem_nil,or_false] at hm;omega
def ag8 {b:Þ} (hI:In b) (n l:Int×Int) {c:Cmp} (hA:c.2.2.1.length≤1000) (hB:c.2.2.2.1.length≤1000):pO b n l c=some (NA b n l c):=by
 unfold pO DK NA;rw[afW];refine(ql hI (ns:=[n]) (by simp) (fun e=>some (false,e)) (fun e he=>by rw[Ù (by simp[ine,he])]) (fun z he=>by rw[Ù (by simp[ine,he])]) (fun _ _ _=>rfl)).trans ?_
 split
 ·rfl
 ·rename_i e;have hr:=(iO hI (by simpa using e)).1;dsimp only
  by_cases hl:l.2<l.1
  ·rw[Ù (by simp[igt,hl]),if_pos hl]
  ·rw[Ó (by simp[igt]; omega),if_neg hl,vM,show((((Î (Ć b [n]).1).length:Int)+1,æ (Ć b [n]).1):Sys)=NH (Ć b [n]).1 from rfl,abe hr n hA hB,À];unfold XQ
   by_cases hp:(Ĵ (Ć b [n]).1 c).2=0
   ·rw[if_neg (by simp[hp]),if_neg (by simp[hp]),Ó (by rfl)];have hw:=aej (n:=n) hp;dsimp only;generalize YE (Ć b [n]).1 n c=w at hw ⊢
    have f1 : -300000000000000000≤ahh l.1∧ahh l.1≤300000000000000000:=by unfold ahh; omega
    have f2 : -300000000000000000≤ahh l.2∧ahh l.2≤300000000000000000:=by unfold ahh; omega
    have q1:([κ w.2.1,κ w.2.2]:List (List Int)).flatten=κ w.2.1++κ w.2.2:=by simp
    have q2:∀x y z:List Int,([x,y,z]:List (List Int)).flatten=x++(y++z):=by intro x y z; simp
    rw[M9 hw.high,À,M9 hw.low,À,oJ (by simp) (by rw[q1]; simp[κ]),À,q1,ams,À,ams,À];generalize ahh l.1=l1 at f1 ⊢;generalize ahh l.2=l2 at f2 ⊢
    rw[Nn hw.high (by omega),À,Ö (by omega) (by omega),Int.zero_sub,Nn hw.low (by omega),À,oJ (by simp) (by rw[q2]; simp[κ,sM]),À,q2,
     Nn hw.high (by omega),À,Ö (by omega) (by omega),Int.zero_sub,Nn hw.low (by omega),À,oJ (by simp) (by rw[q2]; simp[κ,sM]),À,q2]
    have hll:(CF w (l1,l2)).length=18:=rfl;have qs:κ w.2.1++κ w.2.2++(sM w.2.1 l1++sM w.2.2 (-l1))++(sM w.2.1 l2++sM w.2.2 (-l2))=CF w (l1,l2):=rfl
    rw[qs,aih w (by rw[hll]; omega) (fun m hm=>by
     unfold CF at hm;simp only[List.mem_append] at hm;rcases hm with((hm|hm)|(hm|hm))|(hm|hm)
     ·have:=Na hw.high m hm; omega
     ·have:=Na hw.low m hm; omega
     ·have:=No hw.high f1 m hm; omega
     ·have:=No hw.low (n:=-l1) (by omega) m hm; omega
     ·have:=No hw.high f2 m hm; omega
     ·have:=No hw.low (n:=-l2) (by omega) m hm; omega),À]
    have hnl:=aeV w.1 (l:=CF w (l1,l2)) (by rw[hll]; omega);have hsm:=aig hw (l:=CF w (l1,l2));unfold aex;generalize RK w.1 (CF w (l1,l2))=ds at hnl hsm ⊢;refine(ķ ds (fun d=>qe (NQ w d) (l1,l2)==3) (fun z30=>some ((!(ige z30 (0:Int))),(0:Int))) (some (false,0)) (some (true,0)) (fun j=>by rw[show ige (j:Int) 0=true from decide_eq_true (by omega)]; rfl) (fun i d hi hd kn=>?_) (fun kn=>?_)).trans ?_
    ·try dsimp only
     unfold mB;rw[Ô hi,É hd,show ō ((w.1.1,w.1.2),(w.2.1.1,w.2.1.2.1,w.2.1.2.2),w.2.2.1,w.2.2.2.1,w.2.2.2.2) d=ō w d from rfl,ahA hw (hsm d (List.mem_of_getElem? hd)),À,TI,À,Í hi (by omega),ġ]
    ·try dsimp only
     unfold mB;rw[â]
    ·rw[show(fun d=>qe (NQ w d) (l1,l2) != 3)=(fun d=>!(qe (NQ w d) (l1,l2)==3)) from rfl,←List.not_any_eq_all_not]
     cases ds.any fun d=>qe (NQ w d) (l1,l2)==3<;>rfl
   ·rw[if_pos hp,if_pos hp,Ù (bne_iff_ne.2 hp)]
section
variable {L:List Lk} {N:Nat} {x y H G:Int}
def afh (h:iI L N) (ht:M4 L N) (ho:ŏ L N=true) {s t:Int} (hs:0≤s∧s<N) (hv:0≤t∧t<N):∃vs,Wl L (fun u=>u=s) vs t (dst L N s t):=by
 have h2:=h.n60;obtain⟨p,hp⟩:=(Ξ h.links (by omega)).1 ho;obtain⟨vs,hw⟩:=(jq h.links (by omega) hp hs).att t hv.1 hv.2 (afj h ht ho hs hv);exact⟨vs,ZF.1 hw⟩
def anl (h:iI L N) (ho:ŏ L N=true) {s t d:Int} (hs:0≤s∧s<N) {vs:List Int} (hw:Wl L (fun u=>u=s) vs t d):dst L N s t≤d:=by
 have h2:=h.n60;obtain⟨p,hp⟩:=(Ξ h.links (by omega)).1 ho;exact(jq h.links (by omega) hp hs).low t vs d (ZF.2 hw)
end
def Uh (x y:Int) (g:Bool):∀m:List (Int×Bool),sL (k:=tI) (v:=.bool) x (Nl (k:=tI) (v:=.bool) y g m)=if x=y then some g else sL (k:=tI) (v:=.bool) x m
 |[]=>by
  unfold Nl sL ki sL
  by_cases h:x=y<;>simp[h]
 |e::m=>by
  unfold Nl
  by_cases h:y=e.1
  ·have:ki tI y e.1=true:=by simp[ki,h]
   rw[this]
   try dsimp only
   unfold sL ki
   by_cases h2:x=y
   ·simp[h2]
   ·have:¬x=e.1:=fun h3=>h2 (h3.trans h.symm);simp[h2,this]
  ·have:ki tI y e.1=false:=by simp[ki,h]
   rw[this]
   try dsimp only
   have ih:=Uh x y g m;unfold sL
   by_cases h2:x=e.1
   ·have:ki tI x e.1=true:=by simp[ki,h2]
    rw[this];have:¬x=y:=fun h3=>h (h3.symm.trans h2);simp[this]
   ·have:ki tI x e.1=false:=by simp[ki,h2]
    rw[this];exact ih
def RE (l:List Int):List (Int×Bool):=l.foldl (fun m x=>Nl (k:=tI) (v:=.bool) x true m) []
def xi (l:List Int) (x:Int):RE (l++[x])=Nl (k:=tI) (v:=.bool) x true (RE l):=by unfold RE; rw[List.foldl_append]; rfl
def ZN (x:Int):∀(l:List Int) (m:List (Int×Bool)),sL (k:=tI) (v:=.bool) x (l.foldl (fun m x=>Nl (k:=tI) (v:=.bool) x true m) m)=if l.contains x then some true else sL (k:=tI) (v:=.bool) x m
 |[],m=>by simp
 |y::l,m=>by
  rw[gq,ZN x l,Uh]
  by_cases h:x=y
  ·subst h; simp
  ·simp[h]
def ZL (l:List Int) (x:Int):sL (k:=tI) (v:=.bool) x (RE l)=if l.contains x then some true else none:=ZN x l []
def En (b:Þ) (s:Int×Int):List Int:=if s.1=3 then(match b.2.2.2.2.1[s.2.toNat]? with|some c=>c.2.2.1++c.2.2.2.1|none=>[]) else(match b.2.1[s.2.toNat]? with|some g=>[g.1]|none=>[])
def Q5 (b:Þ) (ss looks:List (Int×Int)):List Int:=ss.flatMap (En b)++looks.map fun n=>n.1
def H9 (ss:List (Int×Int)):List Int:=(ss.filter fun s=>s.1==3).map fun s=>s.2
def D7 (w:List Int):Nat→List Cmp→List Cmp
 |_,[]=>[]
 |i,c::t=>if w.contains (i:Int) then c::D7 w (i+1) t else D7 w (i+1) t
def cutP (b:Þ) (ss looks:List (Int×Int)):Þ :=
 (b.1,b.2.1.filter fun g=>(Q5 b ss looks).contains g.1,b.2.2.1.filter fun u=>(Q5 b ss looks).contains u.1,b.2.2.2.1.filter fun l=>(Q5 b ss looks).contains l.1,D7 (H9 ss) 0 b.2.2.2.2.1,looks)
def anG (b:Þ) (s:Int×Int):Prop:=((s.1=1∨s.1=2)∧0≤s.2∧s.2<b.2.1.length)∨(s.1=3∧0≤s.2∧s.2<b.2.2.2.2.1.length)
def UM (w:List Int) (c:Cmp):∀(l:List Cmp) (i:Nat),D7 w i (l++[c])=D7 w i l++if w.contains ((i+l.length:Nat):Int) then[c] else[]
 |[],i=>by simp only[fX,D7,du,fA]
 |a::l,i=>by
  have e:((i+1+l.length:Nat):Int)=((i+(l.length+1):Nat):Int):=by congr 1; omega
  simp only[eQ,D7,UM w c l (i+1),df,e]
  split<;>rfl
def Qy (w:List Int):∀(l:List Cmp) (i:Nat),(D7 w i l).length≤l.length
 |[],i=>by simp[D7]
 |a::l,i=>by
  have:=Qy w l (i+1);simp only[D7]
  split<;>simp only[df]<;>omega
def y0 {ρ:Type} (x:Int) (l:List Int) (f:Bool→Option ρ) (g:Option ρ):YD (k:=tI) (v:=.bool) x (RE l) f g=if l.contains x then f true else g:=by
 unfold YD;rw[ZL]
 by_cases h:l.contains x=true
 ·rw[if_pos h,if_pos h]
 ·rw[if_neg h,if_neg h]
section
variable {ρ:Type}
def cut_L3 (l:List (Int×Int)) (hl:l.length≤1000) (ids:List Int) (K:List (Int×Int)→Option ρ):Ï (fun(v47:(Val (.pair tI (.slice Ã)))) kk50=>tk l (Õ l) (RE ids) v47.1 v47.2 (fun u48 u49=>kk50 (u48,u49)) K) ((0:Int),[])=K (l.filter fun u=>ids.contains u.1):=by
 refine ü l (fun i=>(l.take i).filter fun u=>ids.contains u.1) _ rfl (fun i a hi ha kn=>?_) (fun kn=>?_)
 ·try dsimp only
  unfold tk;have h1:=pJ (fun u:Int×Int=>ids.contains u.1) l i;rw[Ô hi,É ha,y0,take_succ ha,List.filter_append]
  by_cases h:ids.contains a.1=true
  ·rw[if_pos h,Ō,Ī (Ø (by simp only[dF]; omega)),Í hi (by omega)];simp only[dT,dW,h,if_pos]
  ·rw[if_neg h,Í hi (by omega)];simp only[dT,dW,h,if_neg,dl,not_false_eq_true,dK]
 ·try dsimp only
  unfold tk;rw[â,List.take_length]
def cut_L4 (l:List LV) (hl:l.length≤1000) (ids:List Int) (K:List LV→Option ρ):Ï (fun(v47:(Val (.pair tI (.slice Ń)))) kk50=>tj l (Õ l) (RE ids) v47.1 v47.2 (fun u48 u49=>kk50 (u48,u49)) K) ((0:Int),[])=K (l.filter fun u=>ids.contains u.1):=by
 refine ü l (fun i=>(l.take i).filter fun u=>ids.contains u.1) _ rfl (fun i a hi ha kn=>?_) (fun kn=>?_)
 ·try dsimp only
  unfold tj;have h1:=pJ (fun u:LV=>ids.contains u.1) l i;rw[Ô hi,É ha,y0,take_succ ha,List.filter_append]
  by_cases h:ids.contains a.1=true
  ·rw[if_pos h,Ō,Ī (Ø (by simp only[dF]; omega)),Í hi (by omega)];simp only[dT,dW,h,if_pos]
  ·rw[if_neg h,Í hi (by omega)];simp only[dT,dW,h,if_neg,dl,not_false_eq_true,dK]
 ·try dsimp only
  unfold tj;rw[â,List.take_length]
def cut_L5 (l:List Cmp) (hl:l.length≤1000) (hp:∀c∈l,c.2.2.1.length≤1000∧c.2.2.2.1.length≤1000) (w:List Int) (K:List Cmp→Option ρ):Ï (fun(v47:(Val (.pair tI (.slice Ì)))) kk50=>tg l (Õ l) (RE w) v47.1 v47.2 (fun u48 u49=>kk50 (u48,u49)) K) ((0:Int),[])=K (D7 w 0 l):=by
 refine ü l (fun i=>D7 w 0 (l.take i)) _ rfl (fun i a hi ha kn=>?_) (fun kn=>?_)
 ·try dsimp only
  unfold tg;have h1:=Qy w (l.take i) 0;have h2:=hp a (List.mem_of_getElem? ha)
  have e:(l.take i).length=i:=by rw[di]; omega
  rw[Ô hi,É ha,y0,take_succ ha,UM,e,dm]
  by_cases h:w.contains (i:Int)=true
  ·rw[if_pos h,if_pos h,Ō,Ī (Ø (by omega)),Ī (Ø (by omega)),Ī (Ø (by simp only[dF]; omega)),Í hi (by omega)]
  ·rw[if_neg h,if_neg h,Í hi (by omega)];simp only[dK]
 ·try dsimp only
  unfold tg;rw[â,List.take_length]
def cut_L2 (looks:List (Int×Int)) (hl:looks.length≤1000) (ids:List Int) (K:List (Int×Bool)→Option ρ):Ï (fun(v51:(Val (.pair tI (.map tI .bool)))) kk54=>tm looks (Õ looks) v51.1 v51.2 (fun u52 u53=>kk54 (u52,u53)) K) ((0:Int),RE ids)=K (RE (ids++looks.map fun n=>n.1)):=by
 refine ü looks (fun i=>RE (ids++(looks.take i).map fun n=>n.1)) _ (by simp) (fun i a hi ha kn=>?_) (fun kn=>?_)
 ·try dsimp only
  unfold tm;rw[Ô hi,É ha,Í hi (by omega),take_succ ha,List.map_append,←List.append_assoc,List.map_singleton,xi]
 ·try dsimp only
  unfold tm;rw[â,List.take_length]
def cut_L1 (xs:List Int) (hl:xs.length≤10000) (ids:List Int) (K:List (Int×Bool)→Option ρ):Ï (fun(v13:(Val (.pair tI (.map tI .bool)))) kk16=>tp xs (Õ xs) v13.1 v13.2 (fun u14 u15=>kk16 (u14,u15)) K) ((0:Int),RE ids)=K (RE (ids++xs)):=by
 refine ü xs (fun i=>RE (ids++xs.take i)) _ (by simp) (fun i a hi ha kn=>?_) (fun kn=>?_)
 ·try dsimp only
  unfold tp;rw[Ô hi,É ha,Í hi (by omega),take_succ ha,←List.append_assoc,xi]
 ·try dsimp only
  unfold tp;rw[â,List.take_length]
end
def mh {ρ α:Type} {l:List α} {i:Int} (h0:0≤i) {a:α} (h:l[i.toNat]?=some a) (f:α→Option ρ):ò l i f=f a:=by
 obtain⟨n,rfl⟩:=gA h0;exact É (by simpa using h) f
def cut_ok {b:Þ} (hs:Ŷ b) {ss looks:List (Int×Int)} (h1:ss.length≤1000) (h2:looks.length≤1000) (hv:∀s∈ss,anG b s):QS b ss looks=some (cutP b ss looks):=by
 have g1:=hs.gauges; have g2:=hs.uses; have g3:=hs.loans; have g4:=hs.compares; have g5:=hs.looks;unfold QS aiq Ge;refine ü ss (fun i=>(RE ((ss.take i).flatMap (En b)),RE (H9 (ss.take i)))) _ rfl (fun i s hi ha kn=>?_) (fun kn=>?_)
 ·try dsimp only
  unfold zO;have hok:=hv s (List.mem_of_getElem? ha);rw[Ô hi,É ha,take_succ ha,List.flatMap_append]
  have e3:H9 (ss.take i++[s])=H9 (ss.take i)++if s.1=3 then[s.2] else[]:=by
   unfold H9;rw[List.filter_append,List.map_append];congr 1
   by_cases h:s.1=3<;>simp[h]
  rw[e3];rcases hok with⟨hk,h0,h3⟩|⟨hk,h0,h3⟩
  ·have hg:b.2.1[s.2.toNat]?=some b.2.1[s.2.toNat]:=cO (by omega);generalize b.2.1[s.2.toNat]=g at hg
   have e1:En b s=[g.1]:=by
    unfold En;rw[if_neg (by omega),hg]
   have e2:List.flatMap (En b) [s]=[g.1]:=by simp[e1]
   rw[Ó (decide_eq_false (by omega)),if_neg (by omega),dK,e2,xi];rcases hk with hk|hk
   ·rw[Ù (decide_eq_true hk),mh h0 hg,Í hi (by omega)]
   ·rw[Ó (decide_eq_false (by omega)),Ù (decide_eq_true hk),mh h0 hg,Í hi (by omega)]
  ·have hc:b.2.2.2.2.1[s.2.toNat]?=some b.2.2.2.2.1[s.2.toNat]:=cO (by omega);have hp:=hs.piles b.2.2.2.2.1[s.2.toNat] (eE _);generalize b.2.2.2.2.1[s.2.toNat]=c at hc hp
   have e1:En b s=c.2.2.1++c.2.2.2.1:=by
    unfold En;rw[if_pos hk,hc]
   have e2:List.flatMap (En b) [s]=c.2.2.1++c.2.2.2.1:=by simp[e1]
   rw[Ó (decide_eq_false (by omega)),Ó (decide_eq_false (by omega)),Ó (decide_eq_false (by omega)),Ī (decide_eq_true hk),if_pos hk,e2,mh h0 hc,mh h0 hc,oJ (by simp) (by simp; omega),À];rw[show([c.2.2.1,c.2.2.2.1]:List (List Int)).flatten=c.2.2.1++c.2.2.2.1 by simp];refine(cut_L1 (c.2.2.1++c.2.2.2.1) (by simp; omega) _ _).trans ?_;rw[xi,Í hi (by omega)]
 ·try dsimp only
  unfold zO;rw[â];dsimp only;rw[List.take_length];refine(cut_L2 looks h2 _ _).trans ?_;rw[show(ss.flatMap (En b)++looks.map fun n=>n.1)=Q5 b ss looks from rfl];unfold zW
  try dsimp only
  rw[Ī (Ø (by omega)),À]
  have ek:(List.filter (fun g=>(sL (k:=tI) (v:=.bool) g.1 (RE (Q5 b ss looks))).getD false) b.2.1)=b.2.1.filter fun g=>(Q5 b ss looks).contains g.1:=by
   refine List.filter_congr fun g _=>?_;rw[ZL]
   cases(Q5 b ss looks).contains g.1<;>rfl
  rw[ek];unfold mT;dsimp only;refine(cut_L3 b.2.2.1 g2 _ _).trans ?_;refine(cut_L4 b.2.2.2.1 g3 _ _).trans ?_;refine(cut_L5 b.2.2.2.2.1 g4 hs.piles _ _).trans ?_;rfl
instance dec1:DecidableEq ((Int×Int)×Int):=fun a b=>instDecidableEqProd a b
instance dec2:DecidableEq ((Int×Int)×((Int×Int)×Int)):=fun a b=>instDecidableEqProd a b
instance dec3:DecidableEq (Int×(Int×Int)×((Int×Int)×Int)):=fun a b=>instDecidableEqProd a b
instance dec4:DecidableEq (Int×Int×(Int×Int)×((Int×Int)×Int)):=fun a b=>instDecidableEqProd a b
instance decG:DecidableEq í:=fun a b=>instDecidableEqProd a b
instance decL:DecidableEq LV:=fun a b=>instDecidableEqProd a b
instance decI4:DecidableEq (Int×(Int×(Int×Int))):=fun a b=>instDecidableEqProd a b
instance decI5:DecidableEq (List Int×Int×(Int×(Int×Int))):=fun a b=>instDecidableEqProd a b
instance decI6:DecidableEq (List Int×List Int×Int×(Int×(Int×Int))):=fun a b=>instDecidableEqProd a b
instance decI7:DecidableEq (Int×List Int×List Int×Int×(Int×(Int×Int))):=fun a b=>instDecidableEqProd a b
instance decC:DecidableEq Cmp:=fun a b=>instDecidableEqProd a b
def VY {α:Type} [DecidableEq α] (x:α) (l:List α):Bool:=l.any fun a=>decide (x=a)
def VX {α:Type} [DecidableEq α] {x:α} {l:List α}:VY x l=true↔x∈l:=by
 unfold VY;rw[List.any_eq_true];exact⟨fun⟨a,h1,h2⟩=>by rw[of_decide_eq_true h2]; exact h1,fun h=>⟨x,h,decide_eq_true rfl⟩⟩
def acJ {α:Type} [DecidableEq α] (l:List α) (x:α):ige (match l.findIdx? (fun a=>decide (x=a)) with|some j=>(j:Int)|none=>-1) 0=VY x l:=by
 cases h:l.findIdx? (fun a=>decide (x=a)) with
 |none =>
  have:VY x l=false:=by
   cases hm:VY x l with
   |false=>rfl
   |true=>have:=eG.1 h x (VX.1 hm); simp at this
  rw[this];rfl
 |some j =>
  obtain⟨hj,hp,_⟩:=dL.1 h
  have:x∈l:=by rw[of_decide_eq_true hp]; exact eE _
  rw[VX.2 this];exact decide_eq_true (by dsimp only; omega)
def ail {ρ:Type} (o:Option Nat) (f:Int→Option ρ):(match o with|some j=>f (j:Int)|none=>f (-1))=f (match o with|some j=>(j:Int)|none=>-1):=by cases o<;>rfl
def aca {l:List (Int×Int)} (hl:l.length≤1000000) (x:Int×Int):Ě l x=some (VY x l):=by
 unfold Ě Ť ζ Ω
 have e:Ï (fun(v5:Int) kk7=>Ę l (Õ l) x.1 x.2 v5 (fun u6=>kk7 u6) (fun z3=>some z3) (fun _=>some (-1:Int))) (0:Int)=some (match l.findIdx? (fun a=>decide (x=a)) with|some j=>(j:Int)|none=>-1):=by
  refine(gZ l (fun a=>decide (x=a)) (fun z=>some z) (some (-1)) (fun i a hi ha kn=>?_) (fun kn=>?_)).trans (ail _ some)
  ·try dsimp only
   unfold Ę
   have e:((Ħ x.1 a.1)&&((Ħ x.2 a.2)&&true))=decide (x=a):=by
    rw[dM]; simp[Ħ,gQ]
   rw[Ô hi,É ha,Í hi (by omega),ġ,e]
  ·try dsimp only
   unfold Ę;rw[â]
 rw[e,À];exact congrArg some (acJ l x)
def YB {l:List LV} (hl:l.length≤1000000) (x:LV):Ď l x=some (VY x l):=by
 unfold Ď Ő Ŵ ű
 have e:Ï (fun(v5:Int) kk7=>č l (Õ l) x.1 x.2.1.1 x.2.1.2 x.2.2 v5 (fun u6=>kk7 u6) (fun z3=>some z3) (fun _=>some (-1:Int))) (0:Int)=some (match l.findIdx? (fun a=>decide (x=a)) with|some j=>(j:Int)|none=>-1):=by
  refine(gZ l (fun a=>decide (x=a)) (fun z=>some z) (some (-1)) (fun i a hi ha kn=>?_) (fun kn=>?_)).trans (ail _ some)
  ·try dsimp only
   unfold č
   have e:((Ħ x.1 a.1)&&((Ħ x.2.1.1 a.2.1.1)&&((Ħ x.2.1.2 a.2.1.2)&&((Ħ x.2.2 a.2.2)&&true))))=decide (x=a):=by
    rw[dM]; simp[Ħ,gQ,and_assoc]
   rw[Ô hi,É ha,Í hi (by omega),ġ,e]
  ·try dsimp only
   unfold č;rw[â]
 rw[e,À];exact congrArg some (acJ l x)
def acb {l:List í} (hl:l.length≤1000000) (x:í):Ğ l x=some (VY x l):=by
 unfold Ğ Ł ş Ş
 have e:Ï (fun(v5:Int) kk7=>Ă l (Õ l) x.1 x.2.1 x.2.2.1 x.2.2.2.1.1 x.2.2.2.1.2 x.2.2.2.2.1.1 x.2.2.2.2.1.2 x.2.2.2.2.2 v5 (fun u6=>kk7 u6) (fun z3=>some z3) (fun _=>some (-1:Int))) (0:Int)=some (match l.findIdx? (fun a=>decide (x=a)) with|some j=>(j:Int)|none=>-1):=by
  refine(gZ l (fun a=>decide (x=a)) (fun z=>some z) (some (-1)) (fun i a hi ha kn=>?_) (fun kn=>?_)).trans (ail _ some)
  ·try dsimp only
   unfold Ă
   have e:((Ħ x.1 a.1)&&((Ħ x.2.1 a.2.1)&&((Ħ x.2.2.1 a.2.2.1)&&((Ħ x.2.2.2.1.1 a.2.2.2.1.1)&&((Ħ x.2.2.2.1.2 a.2.2.2.1.2)&&((Ħ x.2.2.2.2.1.1 a.2.2.2.2.1.1)&&((Ħ x.2.2.2.2.1.2 a.2.2.2.2.1.2)&&((Ħ x.2.2.2.2.2 a.2.2.2.2.2)&&true))))))))=decide (x=a):=by
    rw[dM]; simp[Ħ,gQ,and_assoc]
   rw[Ô hi,É ha,Í hi (by omega),ġ,e]
  ·try dsimp only
   unfold Ă;rw[â]
 rw[e,À];exact congrArg some (acJ l x)
def aiR (b:Þ):List Int:=b.2.1.map fun g=>g.1
def kG {α:Type} [DecidableEq α] (x y:List α) (w:α→Bool):Bool:=x.all fun a=>!w a||VY a y
def IB (s b:Þ):Bool :=
 kG s.2.2.2.2.1 b.2.2.2.2.1 (fun _=>true)&&(decide (s.1=b.1)&&(kG s.2.1 b.2.1 (fun _=>true)&&(kG s.2.2.1 b.2.2.1 (fun u=>(aiR s).contains u.1)&&(kG b.2.2.1 s.2.2.1 (fun u=>(aiR s).contains u.1) &&
  (kG s.2.2.2.1 b.2.2.2.1 (fun u=>(aiR s).contains u.1)&&kG b.2.2.2.1 s.2.2.2.1 (fun u=>(aiR s).contains u.1))))))
section
variable {ρ:Type}
def Kn {α:Type} [DecidableEq α] (x y:List α) (w:α→Bool) (X Y KF:Option ρ) {f:Int→(Int→Option ρ)→Option ρ}
 (h:∀(i:Nat) (a:α),i<x.length→x[i]?=some a→∀kn,f i kn=if !(!w a||VY a y) then(ifb (!(ige (i:Int) 0)) X KF) else kn ((i:Int)+1))
 (hn:∀kn,f x.length kn=Y):Ï f 0=if kG x y w then Y else KF:=by
 refine(ķ x (fun a=>!(!w a||VY a y)) (fun z=>ifb (!(ige z 0)) X KF) KF Y (fun j=>by rw[show ige (j:Int) 0=true from decide_eq_true (by omega)]; rfl) h hn).trans ?_;unfold kG;rw[List.all_eq_not_any_not]
 cases x.any fun a=>!(!w a||VY a y)<;>rfl
def amX:@uS ρ=@mc ρ:=rfl
def UI {x y:List Int} (hl:x.length=y.length) (hx:x.length≤1000000) (k0:Bool→Option ρ) (K:Option ρ) :
 Ï (fun(v30:Int) kk32=>mc x y (Õ x) v30 (fun u31=>kk32 u31) k0 (fun _=>K)) (0:Int)=if x=y then K else k0 false:=by
 refine(ky x (fun i a=>if y[i]?=some a then none else some false) k0 K (fun i a hi ha kn=>?_) (fun kn=>?_)).trans ?_
 ·try dsimp only
  unfold mc;have hm:y[i]?=some y[i]:=List.getElem?_eq_getElem (by omega);rw[Ô hi,É ha,É hm,Í hi (by omega),hm,ġ]
  by_cases h:a=y[i]
  ·simp[ine,h]
  ·have h':¬y[i]=a:=fun e=>h e.symm;simp[ine,h,h']
 ·try dsimp only
  unfold mc;rw[â]
 ·cases h:ī (fun i a=>if y[i]?=some a then none else some false) 0 x with
  |none=>rw[if_pos (ahH hl h)]
  |some b =>
   obtain⟨h1,h2⟩:=ahG h;rw[if_neg h2,h1]
def ahI {l:List Cmp} (hl:l.length≤1000) (c:Cmp) (hA:c.2.2.1.length≤1000) (hB:c.2.2.2.1.length≤1000) (k0:Int→Option ρ) (K1 KF:Option ρ) (hk:∀j:Nat,k0 (j:Int)=K1) :
 Ï (fun(v41:Int) kk43=>pu l (Õ l) c.1 c.2.1 c.2.2.1 c.2.2.2.1 c.2.2.2.2.1 c.2.2.2.2.2.1 c.2.2.2.2.2.2.1 c.2.2.2.2.2.2.2 v41 (fun u42=>kk43 u42) k0 (fun _=>KF)) (0:Int)=if VY c l then K1 else KF:=by
 refine(ķ l (fun d=>decide (c=d)) k0 K1 KF hk (fun i d hi hd kn=>?_) (fun kn=>?_)).trans rfl
 ·try dsimp only
  unfold pu
  have hsplit:(c=d)↔(c.1=d.1∧c.2.1=d.2.1∧c.2.2.2.2.1=d.2.2.2.2.1∧c.2.2.2.2.2.1=d.2.2.2.2.2.1∧(c.2.2.2.2.2.2.1=d.2.2.2.2.2.2.1∧c.2.2.2.2.2.2.2=d.2.2.2.2.2.2.2)∧c.2.2.1=d.2.2.1∧c.2.2.2.1=d.2.2.2.1):=by
   simp only[gQ];constructor
   ·rintro⟨a1,a2,a3,a4,a5,a6,a7,a8⟩; exact⟨a1,a2,a5,a6,⟨a7,a8⟩,a3,a4⟩
   ·rintro⟨a1,a2,a5,a6,⟨a7,a8⟩,a3,a4⟩; exact⟨a1,a2,a3,a4,a5,a6,a7,a8⟩
  have hno:∀{P:Prop},¬P→(c=d→P)→(if decide (c=d)=true then k0 (i:Int) else kn ((i:Int)+1))=kn ((i:Int)+1):=fun h1 h2=>by
   rw[if_neg];intro h;exact h1 (h2 (of_decide_eq_true h))
  rw[Ô hi,É hd,Í hi (by omega)]
  by_cases a1:c.1=d.1
  case neg=>rw[hno a1 (fun e=>(hsplit.1 e).1),Ó (beq_eq_false_iff_ne.2 a1)]
  rw[Ù (beq_iff_eq.2 a1)]
  by_cases a2:c.2.1=d.2.1
  case neg=>rw[hno a2 (fun e=>(hsplit.1 e).2.1),Ó (beq_eq_false_iff_ne.2 a2)]
  rw[Ù (beq_iff_eq.2 a2)]
  by_cases a3:c.2.2.2.2.1=d.2.2.2.2.1
  case neg=>rw[hno a3 (fun e=>(hsplit.1 e).2.2.1),Ó (beq_eq_false_iff_ne.2 a3)]
  rw[Ù (beq_iff_eq.2 a3)]
  by_cases a4:c.2.2.2.2.2.1=d.2.2.2.2.2.1
  case neg=>rw[hno a4 (fun e=>(hsplit.1 e).2.2.2.1),Ó (beq_eq_false_iff_ne.2 a4)]
  rw[Ù (beq_iff_eq.2 a4)]
  by_cases a5:c.2.2.2.2.2.2.1=d.2.2.2.2.2.2.1∧c.2.2.2.2.2.2.2=d.2.2.2.2.2.2.2
  case neg=>rw[hno a5 (fun e=>(hsplit.1 e).2.2.2.2.1),Ó (by simp only[Ħ,gE,Bool.and_eq_false_iff,decide_eq_false_iff_not]; exact Decidable.not_and_iff_or_not.1 a5)]
  rw[Ù (by simp[Ħ,a5.1,a5.2]),å,å,å,å]
  have rest:∀X Y:Option ρ,(c.2.2.1=d.2.2.1)→(if decide (c=d)=true then k0 (i:Int) else kn ((i:Int)+1))=(if c.2.2.2.1=d.2.2.2.1 then k0 (i:Int) else kn ((i:Int)+1)):=by
   intro _ _ h
   by_cases g:c.2.2.2.1=d.2.2.2.1
   ·rw[if_pos (decide_eq_true (hsplit.2 ⟨a1,a2,a3,a4,a5,h,g⟩)),if_pos g]
   ·rw[if_neg g]; exact hno g (fun e=>(hsplit.1 e).2.2.2.2.2.2)
  by_cases l1:c.2.2.1.length=d.2.2.1.length
  case neg =>
   rw[hno l1 (fun e=>by rw[e]),Ù (bne_iff_ne.2 (by omega))]
  rw[Ó (by rw[l1]; exact bne_self_eq_false' _)];have e3:=UI (ρ:=ρ) l1 (by omega);rw[å] at e3;rw[e3]
  by_cases g1:c.2.2.1=d.2.2.1
  case neg=>rw[if_neg g1,é,hno g1 (fun e=>(hsplit.1 e).2.2.2.2.2.1)]
  rw[if_pos g1,rest none none g1]
  by_cases l2:c.2.2.2.1.length=d.2.2.2.1.length
  case neg =>
   rw[Ù (bne_iff_ne.2 (by omega)),if_neg (fun e=>l2 (by rw[e]))]
  rw[Ó (by rw[l2]; exact bne_self_eq_false' _),amX];have e4:=UI (ρ:=ρ) l2 (by omega);rw[å] at e4;rw[e4,é]
 ·try dsimp only
  unfold pu;rw[â]
def amW:@l9 ρ=@ke ρ:=rfl
def amV:@ĕ ρ=@Ķ ρ:=rfl
def anM {x y:List í} (hx:x.length≤1000) (hy:y.length≤1000) (X Y KF:Option ρ):Ï (fun(v225:Int) kk227=>pr x (Õ x) y v225 (fun u226=>kk227 u226) (fun z=>ifb (!(ige z 0)) X KF) (fun _=>Y)) (0:Int)=if kG x y (fun _=>true) then Y else KF:=by
 refine Kn x y (fun _=>true) X Y KF (fun i a hi ha kn=>?_) (fun kn=>?_)
 ·try dsimp only
  unfold pr;rw[Ô hi,É ha,acb (by omega),À,Í hi (by omega),ġ];simp
 ·try dsimp only
  unfold pr;rw[â]
def ako {x y:List (Int×Int)} (hx:x.length≤1000) (hy:y.length≤1000) (ids:List Int) (X Y KF:Option ρ):Ï (fun(v225:Int) kk227=>ke x (Õ x) (RE ids) y v225 (fun u226=>kk227 u226) (fun z=>ifb (!(ige z 0)) X KF) (fun _=>Y)) (0:Int)=if kG x y (fun u=>ids.contains u.1) then Y else KF:=by
 refine Kn x y (fun u=>ids.contains u.1) X Y KF (fun i a hi ha kn=>?_) (fun kn=>?_)
 ·try dsimp only
  unfold ke;rw[Ô hi,É ha,y0,aca (by omega),À]
  by_cases h:ids.contains a.1=true
  ·rw[if_pos h,Ō,Í hi (by omega),ġ,h];simp
  ·rw[if_neg h,Í hi (by omega)];have h':=Bool.not_eq_true _▸h;rw[h'];simp
 ·try dsimp only
  unfold ke;rw[â]
def akn {x y:List LV} (hx:x.length≤1000) (hy:y.length≤1000) (ids:List Int) (X Y KF:Option ρ):Ï (fun(v225:Int) kk227=>Ķ x (Õ x) (RE ids) y v225 (fun u226=>kk227 u226) (fun z=>ifb (!(ige z 0)) X KF) (fun _=>Y)) (0:Int)=if kG x y (fun u=>ids.contains u.1) then Y else KF:=by
 refine Kn x y (fun u=>ids.contains u.1) X Y KF (fun i a hi ha kn=>?_) (fun kn=>?_)
 ·try dsimp only
  unfold Ķ;rw[Ô hi,É ha,y0,YB (by omega),À]
  by_cases h:ids.contains a.1=true
  ·rw[if_pos h,Ō,Í hi (by omega),ġ,h];simp
  ·rw[if_neg h,Í hi (by omega)];have h':=Bool.not_eq_true _▸h;rw[h'];simp
 ·try dsimp only
  unfold Ķ;rw[â]
def anL {x y:List LV} (hx:x.length≤1000) (hy:y.length≤1000) (ids:List Int) (k:Bool→Option ρ):Ï (fun(v225:Int) kk227=>Ķ x (Õ x) (RE ids) y v225 (fun u226=>kk227 u226) (fun z=>k (!(ige z 0))) (fun _=>k true)) (0:Int)=k (kG x y (fun u=>ids.contains u.1)):=by
 have h:=akn (ρ:=ρ) hx hy ids (k true) (k true) (k false)
 have e:(fun z:Int=>ifb (!(ige z 0)) (k true) (k false))=fun z=>k (!(ige z 0)):=by
  funext z
  cases(!(ige z 0))<;>rfl
 rw[e] at h;rw[h]
 cases kG x y (fun u=>ids.contains u.1)<;>rfl
def anN {x y:List Cmp} (hx:x.length≤1000) (hp:∀c∈x,c.2.2.1.length≤1000∧c.2.2.2.1.length≤1000) (hy:y.length≤1000) (K:Option Bool):Ï (fun(v228:Int) kk230=>pv x (Õ x) y v228 (fun u229=>kk230 u229) (fun z44=>some z44) (fun _=>K)) (0:Int)=if (x.all fun c=>VY c y)=true then K else some false:=by
 refine(ķ x (fun c=>!VY c y) (fun _=>some false) (some false) K (fun _=>rfl) (fun i c hi hc kn=>?_) (fun kn=>?_)).trans ?_
 rotate_left
 ·try dsimp only
  unfold pv;rw[â]
 ·rw[List.all_eq_not_any_not]
  cases x.any fun c=>!VY c y<;>rfl
 ·try dsimp only
  unfold pv;have h:=hp c (List.mem_of_getElem? hc);rw[Ô hi,É hc];refine(ahI hy c h.1 h.2 _ (kn ((i:Int)+1)) (some false) (fun j=>by rw[show ige (j:Int) 0=true from decide_eq_true (by omega),Í hi (by omega)]; rfl)).trans ?_
  cases VY c y<;>rfl
end
def part_ok {s b:Þ} (hs:Ŷ s) (hb:Ŷ b):Ak s b=some (IB s b):=by
 have g1:=hs.gauges; have g2:=hs.uses; have g3:=hs.loans; have g4:=hs.compares;have b1:=hb.gauges; have b2:=hb.uses; have b3:=hb.loans; have b4:=hb.compares;unfold Ak WL IB;rw[amW,amV];refine(ü s.2.1 (fun i=>RE (aiR (s.1,s.2.1.take i,s.2.2))) (some _) rfl (fun i g hi hg kn=>?_) (fun kn=>?_))
 ·try dsimp only
  unfold uT;rw[Ô hi,É hg,Í hi (by omega)];unfold aiR;dsimp only;rw[take_succ hg,List.map_append,List.map_singleton,xi]
 ·try dsimp only
  unfold uT;rw[â,List.take_length]
  try dsimp only
  rw[show aiR (s.1,s.2.1,s.2.2)=aiR s from rfl];refine(anN g4 hs.piles b4 _).trans ?_;rw[show(kG s.2.2.2.2.1 b.2.2.2.2.1 fun _=>true)=s.2.2.2.2.1.all fun c=>VY c b.2.2.2.2.1 from rfl]
  by_cases hc:(s.2.2.2.2.1.all fun c=>VY c b.2.2.2.2.1)=true
  case neg=>rw[if_neg hc,ez.2 hc]; rfl
  rw[if_pos hc,hc,dO]
  by_cases hf:s.1=b.1
  case neg =>
   have ef:(Ħ s.1.1 b.1.1&&(Ħ s.1.2 b.1.2&&true))=false:=by
    rw[gQ] at hf;simp[Ħ];omega
   rw[ef,é,decide_eq_false hf];rfl
  have ef:(Ħ s.1.1 b.1.1&&(Ħ s.1.2 b.1.2&&true))=true:=by simp[Ħ,hf]
  rw[ef,Ō,decide_eq_true hf,dO];refine(anM g1 b1 _ _ _).trans ?_;cases kG s.2.1 b.2.1 fun _=>true
  case false=>rfl
  rw[if_pos rfl,dO];refine(ako g2 b2 _ _ _ _).trans ?_;cases kG s.2.2.1 b.2.2.1 fun u=>(aiR s).contains u.1
  case false=>rfl
  rw[if_pos rfl,dO];refine(ako b2 g2 _ _ _ _).trans ?_;cases kG b.2.2.1 s.2.2.1 fun u=>(aiR s).contains u.1
  case false=>rfl
  rw[if_pos rfl,dO];refine(akn g3 b3 _ _ _ _).trans ?_;cases kG s.2.2.2.1 b.2.2.2.1 fun u=>(aiR s).contains u.1
  case false=>rfl
  rw[if_pos rfl,dO];exact anL b3 g3 _ some
def wV (x:List Int) (y:List Int) (l:Lk):List Int:=if gv x l.2.1=ig then y else y.set l.1.toNat (min (gv y l.1) (l.2.2+gv x l.2.1))
def abB (L:List Lk) (N:Nat) (x:List Int):List Int:=L.foldl (wV x) (List.replicate N ig)
def exL (L:List Lk) (N:Nat) (to:Int):Nat→List Int
 |0=>(List.replicate N ig).set to.toNat 0
 |k+1=>abB L N (exL L N to k)
def nN (L:List Lk) (N:Nat) (to:Int) (most:Nat):List (List Int):=(List.range (most+1)).map (exL L N to)
section
variable {L:List Lk} {N:Nat}
def U1 (x y:List Int) (l:Lk):(wV x y l).length=y.length:=by unfold wV; split<;>simp
def J7 (x:List Int):∀(M:List Lk) (y:List Int),(M.foldl (wV x) y).length=y.length
 |[],y=>rfl
 |l::M,y=>by rw[gq,J7 x M,U1]
def agy (x:List Int):(abB L N x).length=N:=by unfold abB; rw[J7]; simp
def adJ (to:Int) (k:Nat):(exL L N to k).length=N:=by
 cases k with
 |zero=>simp[exL]
 |succ k=>exact agy _
def Lim (B:Int) (x:List Int):Prop:=∀v:Int,gv x v≠ig→-B≤gv x v∧gv x v≤B
def gv_out {x:List Int} {v:Int} (h:¬v.toNat<x.length):gv x v=0:=by
 unfold gv;rw[List.getElem?_eq_none (by omega)];rfl
def aiK {B:Int} (hB:0≤B):Lim B (List.replicate N ig):=by
 intro v hv
 by_cases h:v.toNat<N
 ·exfalso; apply hv;unfold gv;rw[List.getElem?_replicate,if_pos h];rfl
 ·rw[gv_out (by simpa using h)]; omega
def aiJ {B:Int} {y:List Int} (hy:Lim B y) {u:Int} (hu:0≤u) (hl:u.toNat<y.length) {a:Int} (ha:a≠ig→-B≤a∧a≤B):Lim B (y.set u.toNat a):=by
 intro v hv
 by_cases h:v.toNat=u.toNat
 ·have:gv (y.set u.toNat a) v=a:=by
   unfold gv;rw[h,List.getElem?_set_self hl];rfl
  rw[this] at hv ⊢;exact ha hv
 ·have:gv (y.set u.toNat a) v=gv y v:=by
   unfold gv;rw[List.getElem?_set_ne (fun e=>h e.symm)]
  rw[this] at hv ⊢;exact hy v hv
def alc (hS:iI L N) {B:Int} (hB:0≤B) (hB2:B≤1000000000000000000) {x y:List Int} (hx:Lim B x) (hy:Lim (B+4503599627370496) y) (hl:y.length=N) {l:Lk} (hm:l∈L):Lim (B+4503599627370496) (wV x y l):=by
 unfold wV
 split
 ·exact hy
 ·rename_i hf;have h1:=hS.inr l hm;have h2:=hS.most l hm;have h3:=hx _ hf;refine aiJ hy h1.1.1 (by omega) fun ha=>?_
  by_cases h4:gv y l.1=ig
  ·rw[h4] at ha ⊢
   have:min ig (l.2.2+gv x l.2.1)=l.2.2+gv x l.2.1:=by unfold ig; omega
   rw[this]; omega
  ·have:=hy _ h4;omega
def ae1 (hS:iI L N) {B:Int} (hB:0≤B) (hB2:B≤1000000000000000000) {x:List Int} (hx:Lim B x):∀(M:List Lk),(∀l∈M,l∈L)→∀y:List Int,y.length=N→Lim (B+4503599627370496) y→Lim (B+4503599627370496) (M.foldl (wV x) y)
 |[],_,y,_,hy=>hy
 |l::M,hM,y,hl,hy=>by
  rw[gq];exact ae1 hS hB hB2 hx M (fun m hm=>hM m (by simp[hm])) _ (by rw[U1,hl]) (alc hS hB hB2 hx hy hl (hM l (by simp)))
def ady (hS:iI L N) {to:Int} (ht:0≤to∧to<N):∀k:Nat,k≤200→Lim (k*4503599627370496) (exL L N to k)
 |0,_=>by
  unfold exL;exact aiJ (aiK (by omega)) ht.1 (by simp; omega) (fun _=>by omega)
 |k+1,hk=>by
  have:=ae1 hS (B:=k*4503599627370496) (by omega) (by omega) (ady hS ht k (by omega)) L (fun _ h=>h) (List.replicate N ig) (by simp) (aiK (by omega));unfold exL abB
  have e:(((k+1:Nat):Int)*4503599627370496)=(k:Int)*4503599627370496+4503599627370496:=by push_cast; omega
  rw[e];exact this
def aby {ρ:Type} (hN:N≤1000) (K:List Int→Option ρ) {f:Int×List Int→(Int×List Int→Option ρ)→Option ρ}
 (hf:∀(v:Int×List Int) kk,f v kk=zQ (N:Int) v.1 v.2 (fun u34 u35=>kk (u34,u35)) K):Ï f ((0:Int),List.replicate N (0:Int))=K (List.replicate N ig):=by
 refine ü (List.replicate N (0:Int)) (fun i=>List.replicate i ig++List.replicate (N-i) (0:Int)) _ (by simp) (fun i a hi ha kn=>?_) (fun kn=>?_)
 ·rw[hf];dsimp only;unfold zQ;rw[List.length_replicate] at hi
  have hlen:(List.replicate i ig++List.replicate (N-i) (0:Int)).length=N:=by simp; omega
  have e1:ilt (i:Int) (N:Int)=true:=decide_eq_true (by omega);rw[Ù e1,show ă (List.replicate i ig++List.replicate (N-i) (0:Int))=(N:Int) by unfold ă; rw[hlen],jm (by omega) (by omega),j7 (by rw[hlen]; omega),Ö (by omega) (by omega)];congr 2;rw[Int.toNat_natCast];rw[List.set_append_right _ _ (by simp),List.length_replicate,Nat.sub_self];rw[show N-i=(N-(i+1))+1 by omega,List.replicate_succ,List.set_cons_zero,List.replicate_succ'];simp
 ·rw[hf];dsimp only;unfold zQ;rw[List.length_replicate];have e1:ilt (N:Int) (N:Int)=false:=decide_eq_false (by omega);rw[Ó e1];simp
def okN (hN:N≤1000) {ρ:Type} (x:Option ρ):ë ((ile (0:Int) (N:Int))&&(ì (Int.toNat (N:Int)))) x=x:=by
 rw[Ī];rw[dt,Ø (by omega),gE];exact decide_eq_true (by omega)
def aiI {ρ:Type} (hS:iI L N) {B:Int} (hB:0≤B) (hB2:B≤1000000000000000000) {x:List Int} (hx:Lim B x) (hxl:x.length=N) (K:List Int→Option ρ) :
 Ï (fun(v20:(Val (.pair tI (.slice tI)))) kk23=>Gz x L (Õ L) v20.1 v20.2 (fun u21 u22=>kk23 (u21,u22)) K) ((0:Int),List.replicate N ig)=K (abB L N x):=by
 have hl3:=hS.len;refine ü L (fun i=>(L.take i).foldl (wV x) (List.replicate N ig)) _ rfl (fun i l hi hl kn=>?_) (fun kn=>?_)
 ·try dsimp only
  unfold Gz;have hm:=List.mem_of_getElem? hl;have h1:=hS.inr l hm;have h2:=hS.most l hm;rw[Ô hi,É hl,zc h1.2.1 (by omega),take_succ hl,List.foldl_append,Í hi (by omega)]
  have hlen:((L.take i).foldl (wV x) (List.replicate N ig)).length=N:=by rw[J7]; simp
  generalize (L.take i).foldl (wV x) (List.replicate N ig)=y at hlen ⊢
  by_cases hf:gv x l.2.1=ig
  ·rw[Ó (by rw[hf]; rfl)];simp only[List.foldl_cons,List.foldl_nil];unfold wV;rw[if_pos hf]
  ·have h3:=hx _ hf;rw[Ù (bne_iff_ne.2 hf),show ă y=(N:Int) by unfold ă; rw[hlen],jm h1.1.1 h1.1.2,j7 (by omega),zc h1.2.1 (by omega),Ö (by omega) (by omega),jm h1.1.1 h1.1.2,j7 (by omega),Í hi (by omega)];simp only[List.foldl_cons,List.foldl_nil];unfold wV;rw[if_neg hf,D9]
 ·try dsimp only
  unfold Gz;rw[â,List.take_length];rfl
def als {ρ:Type}:@W9 ρ=@zQ ρ:=rfl
def kF (to:Int) (m:Nat):(nN L N to m).length=m+1:=by simp[nN]
def J6 {to:Int} {m k:Nat} (hk:k≤m):(nN L N to m)[k]?=some (exL L N to k):=by
 unfold nN;rw[List.getElem?_map,List.getElem?_range (by omega)];rfl
def alr (hS:iI L N) {to:Int} (ht:0≤to∧to<N) {most:Nat} (hm:most≤100):zk ((N:Int),L) to (most:Int)=some (nN L N to most):=by
 have hN:=hS.n60
 unfold zk PF
 dsimp only;rw[okN (by omega),Int.toNat_natCast];refine(aby (by omega) _ (fun v kk=>by rw[å,List.length_replicate])).trans ?_;rw[show ă (List.replicate N ig)=(N:Int) by simp[ă],jm ht.1 ht.2,j7 (by simp; omega)];refine ü (List.replicate most ()) (fun i=>nN L N to i) _ (by simp[nN,exL]) (fun i a hi ha kn=>?_) (fun kn=>?_)
 ·try dsimp only
  unfold Np;rw[List.length_replicate] at hi;have e1:ilt (i:Int) (most:Int)=true:=decide_eq_true (by omega);rw[Ù e1,å,kF]
  have e2:(((i+1:Nat):Int)-1)=(i:Int):=by omega
  rw[e2,Ö (by omega) (by omega),show ă (nN L N to i)=((i+1:Nat):Int) by unfold ă; rw[kF],jm (by omega) (by omega),Int.toNat_natCast,uE (J6 (Nat.le_refl i)),okN (by omega),Int.toNat_natCast];rw[als];refine(aby (by omega) _ (fun v kk=>by rw[å,List.length_replicate])).trans ?_;refine(aiI hS (B:=i*4503599627370496) (by omega) (by omega) (ady hS ht i (by omega)) (adJ _ _) _).trans ?_;rw[Ī (Ø (by simp only[kF,List.length_singleton]; omega)),Ö (by omega) (by omega)];congr 2;unfold nN;rw[List.range_succ (n:=i+1),List.map_append];rfl
 ·try dsimp only
  unfold Np;rw[List.length_replicate];have e1:ilt (most:Int) (most:Int)=false:=decide_eq_false (by omega);rw[Ó e1]
def RJ (L:List Lk) (x:List Int) (good:Int→Bool) (u sum:Int):Option Nat:=L.findIdx? fun l=>l.1==u&&(decide (gv x l.2.1≠ig)&&good (sum+l.2.2+gv x l.2.1))
def sf (L:List Lk) (rest:Nat→List Int) (good:Int→Bool):Nat→Int→Int→List Int→List Int
 |0,_,_,out=>out
 |k+1,u,sum,out=>match RJ L (rest k) good u sum with
  |some i=>sf L rest good k (L[i]?.getD (0,0,0)).2.1 (sum+(L[i]?.getD (0,0,0)).2.2) (out++[(i:Int)])
  |none=>sf L rest good k u sum out
def folL {ρ:Type} (good:Int→Bool) (c0:Int) (c1:List (List Int)) (c2:List Lk) (c3:Int) (v0:Int) (v1:Int) (v2:Int) (v3:List Int) (kn:Int→Int→Int→List Int→Option ρ) (k0:Int×Int×List Int→Option ρ):Option ρ :=
 ifb (ilt v2 c3) (ò c2 v2 fun e7=>ifb (ieq e7.1 v0) (ck (c0-(1:Int)) fun n8=>ò c1 n8 fun e9=>ò e9 e7.2.1 fun e10=>ifb (ine e10 (1152921504606846976:Int)) (ck (v1+e7.2.2) fun n11=>ck (c0-(1:Int)) fun n12=>ò c1 n12 fun e13=>ò e13 e7.2.1 fun e14=>ck (n11+e14) fun n15=>ifb (good n15) (ë (ì ((List.length v3)+(List.length ([v2])))) (ck (v1+e7.2.2) fun n16=>k0 (e7.2.1,n16,(v3++([v2]))))) (ck (v2+(1:Int)) fun n17=>kn v0 v1 n17 v3)) (ck (v2+(1:Int)) fun n18=>kn v0 v1 n18 v3)) (ck (v2+(1:Int)) fun n19=>kn v0 v1 n19 v3)) (k0 (v0,v1,v3))
def anf {ρ:Type} (hS:iI L N) (good:Int→Bool) {rest:List (List Int)} {k:Nat} {x:List Int} (hr:rest[k]?=some x) (hk:k≤100) (hx:Lim 1000000000000000000 x) (hxl:x.length=N) {u sum:Int} (hs : -1000000000000000000≤sum∧sum≤1000000000000000000) {out:List Int} (ho:out.length≤1000)
 (K:Int×Int×List Int→Option ρ):Ï (fun(v:Int×Int×Int×List Int) kk=>folL good ((k+1:Nat):Int) rest L (Õ L) v.1 v.2.1 v.2.2.1 v.2.2.2 (fun a b c d=>kk (a,b,c,d)) K) (u,sum,(0:Int),out) =
  match RJ L x good u sum with|some i=>K ((L[i]?.getD (0,0,0)).2.1,sum+(L[i]?.getD (0,0,0)).2.2,out++[(i:Int)])|none=>K (u,sum,out):=by
 have hl3:=hS.len;refine ł (fun v=>∃i:Nat,i≤L.length∧v=(u,sum,(i:Int),out)∧∀j l,j<i→L[j]?=some l→(l.1==u&&(decide (gv x l.2.1≠ig)&&good (sum+l.2.2+gv x l.2.1)))=false) (fun v=>L.length-v.2.2.1.toNat) ?_ ⟨0,by omega,rfl,fun j l h=>by omega⟩;rintro v ⟨i,hi,rfl,hp⟩
 have e0:(((k+1:Nat):Int)-1)=(k:Int):=by omega
 rcases dE i L.length with h2|h2
 ·have hl:L[i]?=some L[i]:=cO h2;generalize L[i]=l at hl;have hm:=cZ hl;have h1:=hS.inr l hm;have h4:=hS.most l hm
  have hstep:(l.1==u&&(decide (gv x l.2.1≠ig)&&good (sum+l.2.2+gv x l.2.1)))=false→∃y,(∃i:Nat,i≤L.length∧y=(u,sum,(i:Int),out)∧∀j l,j<i→L[j]?=some l→(l.1==u&&(decide (gv x l.2.1≠ig)&&good (sum+l.2.2+gv x l.2.1)))=false)∧(L.length-y.2.2.1.toNat<L.length-((u,sum,(i:Int),out):Int×Int×Int×List Int).2.2.1.toNat)∧y=(u,sum,(i:Int)+1,out):=fun hf =>
   ⟨_,⟨i+1,h2,by rw[show((i+1:Nat):Int)=(i:Int)+1 by push_cast; rfl],fun j m hj hm=>by
    rcases Nat.lt_succ_iff_lt_or_eq.1 hj with h|rfl
    ·exact hp j m h hm
    ·rw[hl] at hm; cases hm; exact hf⟩,by simp; omega,rfl⟩
  by_cases hf:(l.1==u&&(decide (gv x l.2.1≠ig)&&good (sum+l.2.2+gv x l.2.1)))=true
  ·refine .inl fun kn=>?_
   have hfi:RJ L x good u sum=some i:=by
    unfold RJ;rw[List.findIdx?_eq_some_iff_getElem];obtain⟨hh,rfl⟩:=List.getElem?_eq_some_iff.1 hl;exact⟨h2,hf,fun j hj=>by have:=hp j _ hj (List.getElem?_eq_getElem (by omega)); rw[this]; simp⟩
   rw[hfi];simp only[Bool.and_eq_true,beq_iff_eq,decide_eq_true_eq] at hf;have h5:=hx _ hf.2.1;dsimp only;unfold folL
   rw[Ô h2,É hl,Ù (by simp[hf.1]),e0,Ö (by omega) (by omega),É hr,zc h1.2.1 (by omega),Ù (bne_iff_ne.2 hf.2.1),Ö (by omega) (by omega),Ö (by omega) (by omega),É hr,zc h1.2.1 (by omega),Ö (by omega) (by omega),Ù hf.2.2,
    Ī (Ø (by simp; omega)),Ö (by omega) (by omega),hl]
   rfl
  ·have hf':=Bool.not_eq_true _▸hf;obtain⟨y,hy1,hy2,rfl⟩:=hstep hf';refine .inr ⟨_,hy1,hy2,fun kn=>?_⟩;dsimp only;unfold folL;rw[Ô h2,É hl,Í h2 (by omega)]
   by_cases g1:l.1=u
   ·rw[Ù (by simp[g1]),e0,Ö (by omega) (by omega),É hr,zc h1.2.1 (by omega)]
    by_cases g2:gv x l.2.1=ig
    ·rw[Ó (by rw[g2]; rfl)]
    ·have h5:=hx _ g2
     have g3:good (sum+l.2.2+gv x l.2.1)=false:=by simpa[g1,g2] using hf'
     rw[Ù (bne_iff_ne.2 g2),Ö (by omega) (by omega),Ö (by omega) (by omega),É hr,zc h1.2.1 (by omega),Ö (by omega) (by omega),Ó g3]
   ·rw[Ó (by simpa using g1)]
 ·refine .inl fun kn=>?_
  obtain rfl:i=L.length:=by omega
  have hfi:RJ L x good u sum=none:=by
   unfold RJ;rw[List.findIdx?_eq_none_iff];intro l hl;obtain⟨j,hj,rfl⟩:=List.mem_iff_getElem.1 hl;exact hp j _ hj (List.getElem?_eq_getElem hj)
  rw[hfi];dsimp only;unfold folL;rw[â]
def ane {ρ:Type} (good:Int→Bool) (c0:List (List Int)) (c6:List Lk) (v0:Int) (v1:Int) (v2:Int) (v3:List Int) (kn:Int→Int→Int→List Int→Option ρ) (k0:List Int→Option ρ):Option ρ :=
 ifb (igt v1 (0:Int)) (Ï (fun(v22:Int×Int×Int×List Int) kk27=>folL good v1 c0 c6 (Õ c6) v22.1 v22.2.1 v22.2.2.1 v22.2.2.2 (fun u23 u24 u25 u26=>kk27 (u23,u24,u25,u26)) (fun z20=>ck (v1-(1:Int)) fun n21=>kn z20.1 n21 z20.2.1 z20.2.2)) (v0,v2,(0:Int),v3)) (k0 v3)
def alL {ρ:Type} (c0:List (List Int)) (c4:Int) (c6:List Lk):@rf ρ c0 c4 c6=ane (fun n=>ieq n c4) c0 c6:=rfl
def anc {ρ:Type} (hS:iI L N) (good:Int→Bool) {rest:List (List Int)} {R:Nat→List Int} {k0:Nat} (hk:k0≤100) (hr:∀k,k<k0→rest[k]?=some (R k)) (hx:∀k,k<k0→Lim 900000000000000000 (R k)∧(R k).length=N) (u:Int) (K:List Int→Option ρ) :
 Ï (fun(v:Int×Int×Int×List Int) kk=>ane good rest L v.1 v.2.1 v.2.2.1 v.2.2.2 (fun a b c d=>kk (a,b,c,d)) K) (u,(k0:Int),(0:Int),[])=K (sf L R good k0 u 0 []):=by
 have key:=tR (f:=fun(v:Int×Int×Int×List Int) kk=>ane good rest L v.1 v.2.1 v.2.2.1 v.2.2.2 (fun a b c d=>kk (a,b,c,d)) K) (F:=fun v=>K (sf L R good v.2.1.toNat v.1 v.2.2.1 v.2.2.2))
  (fun v=>∃k:Nat,v.2.1=k∧k≤k0∧(-(((k0-k:Nat):Int)*4503599627370496)≤v.2.2.1∧v.2.2.1≤((k0-k:Nat):Int)*4503599627370496)∧v.2.2.2.length≤k0-k) (fun v=>v.2.1.toNat) (fun v hv kn hk=>?_) (x:=(u,(k0:Int),0,[])) ⟨k0,rfl,cQ _,by simp,by simp⟩
 ·rw[key]; simp
 ·obtain⟨u,k',sum,out⟩:=v;obtain⟨k,e,h1,h2,h3⟩:=hv;dsimp only at e h2 h3 hk ⊢;subst e;rw[Int.toNat_natCast] at hk ⊢;unfold ane
  cases k with
  |zero =>
   rw[Ó (by rfl)];rfl
  |succ k =>
   rw[Ù (decide_eq_true (by omega))];have hh:=hx k (by omega)
   have hlim:Lim 1000000000000000000 (R k):=fun v hv=>by have:=hh.1 v hv; omega
   refine(anf hS good (hr k (by omega)) (by omega) hlim hh.2 (by omega) (by omega) _).trans ?_;unfold sf
   have e0:(((k+1:Nat):Int)-1)=(k:Int):=by omega
   cases hn:RJ L (R k) good u sum with
   |none =>
    dsimp only;rw[e0,Ö (by omega) (by omega),hk _ ⟨k,rfl,by omega,by dsimp only; omega,by dsimp only; omega⟩ (by simp)];simp
   |some i =>
    have hi:i<L.length:=by
     unfold RJ at hn;exact(List.findIdx?_eq_some_iff_getElem.1 hn).1
    have hl:L[i]?=some L[i]:=List.getElem?_eq_getElem hi;have h4:=hS.most L[i] (List.getElem_mem _);dsimp only;rw[hl];simp only[Option.getD_some];rw[e0,Ö (by omega) (by omega),hk _ ⟨k,rfl,by omega,by dsimp only; omega,by simp; omega⟩ (by simp)];simp
def RB (L:List Lk) (N:Nat) (u v:Int):List Int×Int :=
 if (hZ L N u v).2≠0 then([],(hZ L N u v).2) else
 match (nN L N v N).findIdx? (fun x=>gv x u==(hZ L N u v).1) with
 |some k=>(sf L (exL L N v) (fun n=>ieq n (hZ L N u v).1) k u 0 [],0)
 |none=>([],0)
def afN (hS:iI L N) {u v:Int} (hu:0≤u∧u<N) (hv:0≤v∧v<N):zm ((N:Int),L) u v=some (RB L N u v):=by
 have hN:=hS.n60;unfold zm PT RB;rw[ND hS hu hv,À]
 by_cases h:(hZ L N u v).2=0
 ·rw[Ó (by rw[h]; rfl),if_neg (by simp[h]),alr hS hv (by omega),À];rw[alL]
  let k0:Int→Option (List Int×Int):=fun j=>Ï (fun(v29:Int×Int×Int×List Int) kk34=>ane (fun n=>ieq n (hZ L N u v).1) (nN L N v N) L v29.1 v29.2.1 v29.2.2.1 v29.2.2.2 (fun u30 u31 u32 u33=>kk34 (u30,u31,u32,u33)) (fun z28=>some ((z28,(0:Int)):List Int×Int))) (u,j,(0:Int),[])
  refine(gZ (nN L N v N) (fun x=>gv x u==(hZ L N u v).1) k0 (k0 (-1)) (fun i x hi hx kn=>?_) (fun kn=>?_)).trans ?_
  rotate_left
  ·try dsimp only
   unfold rg;rw[â]
  ·have hex:∀k,k<N+1→(nN L N v N)[k]?=some (exL L N v k):=fun k hk=>J6 (by omega)
   have hlim:∀k,k<N+1→Lim 900000000000000000 (exL L N v k)∧(exL L N v k).length=N:=fun k hk=>⟨fun w hw=>by
    have:=ady hS hv k (by omega) w hw; omega,adJ _ _⟩
   cases hf:(nN L N v N).findIdx? (fun x=>gv x u==(hZ L N u v).1) with
   |none =>
    have:=tR (f:=fun(v29:Int×Int×Int×List Int) kk34=>ane (fun n=>ieq n (hZ L N u v).1) (nN L N v N) L v29.1 v29.2.1 v29.2.2.1 v29.2.2.2 (fun u30 u31 u32 u33=>kk34 (u30,u31,u32,u33)) (fun z28=>some ((z28,(0:Int)):List Int×Int))) (F:=fun _=>some (([],0):List Int×Int)) (fun v=>v.2.1 = -1∧v.2.2.2=[]) (fun _=>0) (fun x hx kn hk=>by
     unfold ane;rw[hx.1,hx.2]
     rfl) (x:=(u,(-1:Int),(0:Int),[])) ⟨rfl,rfl⟩
    exact this
   |some k =>
    have hk:=(dL.1 hf).1;rw[kF] at hk;exact anc hS _ (R:=exL L N v) (by omega) (fun j hj=>hex j (by omega)) (fun j hj=>hlim j (by omega)) u (fun z=>some ((z,(0:Int)):List Int×Int))
  ·try dsimp only
   unfold rg
   have hxl:x.length=N:=by
    have hi':=hi;rw[kF] at hi';rw[J6 (by omega)] at hx;cases hx;exact adJ _ _
   rw[kF] at hi;rw[å,kF,Ù (decide_eq_true (by omega)),É hx,zc hu.1 (by omega),Ö (by omega) (by omega),ġ]
 ·rw[Ù (bne_iff_ne.2 h),if_pos h]
end
abbrev amd:Type:=Þ×(Int×Int)×Bool×Int×List Int
def ajr:amd:=(ou,(0,0),false,0,[])
def CB (L:List Lk):Int→Int→List Int→Int×Int×Bool
 |u,s,[]=>(u,s,true)
 |u,s,i::t=>if (L[i.toNat]?.getD (0,0,0)).1=u then CB L (L[i.toNat]?.getD (0,0,0)).2.1 (s+(L[i.toNat]?.getD (0,0,0)).2.2) t else(0,0,false)
def ab0 (L:List Lk) (i:Int):Bool:=decide (i<0)||decide ((L.length:Int)≤i)
def lg (L:List Lk) (l:List Int):Int:=if 80<l.length then 2 else if l.any (ab0 L) then 1 else 0
def ŷ (L:List Lk) (u v:Int) (l:List Int):Int×Int :=
 if lg L l≠0 then(0,lg L l) else if (CB L u 0 l).2.2=true∧(CB L u 0 l).1=v then((CB L u 0 l).2.1,0) else(0,8)
def amy (u:Int) (w:Int×Int×Bool):Int:=if w.2.2=true∧w.1=u∧w.2.1<0 then 0 else 8
def wg (L:List Lk) (l:List Int):Int :=
 if lg L l≠0 then lg L l else match l with
 |[]=>8
 |i::_=>amy (L[i.toNat]?.getD (0,0,0)).1 (CB L (L[i.toNat]?.getD (0,0,0)).1 0 l)
section
variable {L:List Lk} {N:Nat}
def UQ (N:Int) (hL:L.length≤1000) (l:List Int):pP (N,L) l=some (lg L l):=by
 unfold pP DP lg;dsimp only;rw[å]
 by_cases h:80<l.length
 ·rw[Ù (decide_eq_true (by omega)),if_pos h]
 ·rw[Ó (decide_eq_false (by omega)),if_neg h,←å l];refine(ķ l (ab0 L) (fun z=>ifb (ige z 0) (some 1) (some 0)) (some 1) (some 0) (fun j=>by rw[show ige (j:Int) 0=true from decide_eq_true (by omega)]; rfl) (fun i a hi ha kn=>?_) (fun kn=>?_)).trans ?_
  ·try dsimp only
   unfold mC ab0;rw[Ô hi,É ha,Í hi (by omega),å,ġ,ġ]
   by_cases h1:a<0
   ·simp[ilt,h1]
   ·by_cases h2:(L.length:Int)≤a
    ·simp[ilt,ige,h1,h2]
    ·simp[ilt,ige,h1,h2]
  ·try dsimp only
   unfold mC;rw[â]
  ·cases l.any (ab0 L)<;>rfl
def adC {l:List Int} (h:lg L l=0):l.length≤80∧∀i∈l,0≤i∧i.toNat<L.length:=by
 unfold lg at h
 split at h
 ·omega
 ·rename_i h1
  split at h
  ·omega
  ·rename_i h2;refine⟨by omega,fun i hi=>?_⟩;have:=eV.1 (ez.2 h2) i hi;simp[ab0] at this;omega
def aho (hS:iI L N) (u:Int) {l:List Int} (h:lg L l=0):HU ((N:Int),L) u l=some (CB L u 0 l):=by
 obtain⟨hl,hi⟩:=adC h;unfold HU W7;dsimp only
 have:=tR (f:=fun(v7:Int×Int×Int) kk11=>vf l (Õ l) L v7.1 v7.2.1 v7.2.2 (fun u8 u9 u10=>kk11 (u8,u9,u10)) (fun z5=>some (z5.1,z5.2.1,z5.2.2)) (fun z6=>some (z6.1,z6.2,true)))
  (F:=fun v=>some (CB L v.1 v.2.1 (l.drop v.2.2.toNat))) (fun v=>∃i:Nat,v.2.2=i∧i≤l.length∧(-(i*4503599627370496)≤v.2.1∧v.2.1≤i*4503599627370496)) (fun v=>l.length-v.2.2.toNat) (fun v hv kn hk=>?_) (x:=(u,(0:Int),(0:Int))) ⟨0,rfl,by omega,by simp⟩
 ·exact this
 ·obtain⟨w,s,n⟩:=v;obtain⟨i,e,h1,h2⟩:=hv;dsimp only at e h2 hk ⊢;subst e;rw[Int.toNat_natCast] at hk ⊢;unfold vf;rcases Nat.lt_or_ge i l.length with h3|h3
  ·have ha:l[i]?=some l[i]:=List.getElem?_eq_getElem h3;have hd:l.drop i=l[i]::l.drop (i+1):=List.drop_eq_getElem_cons h3;rw[hd];have hx:=hi l[i] (List.getElem_mem _);generalize l[i]=a at ha hx;have hg:L[a.toNat]?=some L[a.toNat]:=List.getElem?_eq_getElem hx.2;have hm:=hS.most _ (List.mem_of_getElem? hg);generalize L[a.toNat]=x at hg hm;rw[Ô h3,É ha,mh hx.1 hg];unfold CB;rw[hg];simp only[Option.getD_some]
   by_cases hc:x.1=w
   ·rw[Ó (by rw[hc]; exact bne_self_eq_false' _),if_pos hc,Ö (by omega) (by omega),Í h3 (by omega),hk _ ⟨i+1,by push_cast; rfl,h3,by dsimp only; push_cast; omega⟩ (by simp; omega)];simp
   ·rw[Ù (bne_iff_ne.2 hc),if_neg hc]
  ·obtain rfl:i=l.length:=by omega
   rw[â,gI];rfl
def ahp (hS:iI L N):∀(l:List Int) (u s B:Int),-B≤s∧s≤B→-(B+l.length*4503599627370496)≤(CB L u s l).2.1∧(CB L u s l).2.1≤B+l.length*4503599627370496
 |[],u,s,B,h=>by simp[CB]; omega
 |i::t,u,s,B,h=>by
  unfold CB
  have hm : -4503599627370496≤(L[i.toNat]?.getD (0,0,0)).2.2∧(L[i.toNat]?.getD (0,0,0)).2.2≤4503599627370496:=by
   cases hg:L[i.toNat]? with
   |none=>simp
   |some x=>exact hS.most x (cZ hg)
  split
  ·have:=ahp hS t (L[i.toNat]?.getD (0,0,0)).2.1 (s+(L[i.toNat]?.getD (0,0,0)).2.2) (B+4503599627370496) (by omega);rw[df];push_cast;omega
  ·dsimp only;omega
def Im (hS:iI L N) {u v:Int} (hu:0≤u∧u<N) (hv:0≤v∧v<N) (l:List Int):jT ((N:Int),L) u v l=some (ŷ L u v l):=by
 have hl3:=hS.len;unfold jT rX ŷ
 have e1:(decide (0≤u)&&decide (u<(N:Int)))=true:=by simp[hu.1,hu.2]
 have e2:(decide (0≤v)&&decide (v<(N:Int)))=true:=by simp[hv.1,hv.2]
 rw[lG hS,À,Ó (by rfl),Oe,À,e1,Ó (by rfl),Oe,À,e2,Ó (by rfl),UQ _ (by omega),À]
 by_cases h:lg L l=0
 ·rw[Ó (by rw[h]; rfl),if_neg (by simp[h]),aho hS u h,À]
  cases h1:(CB L u 0 l).2.2 with
  |false=>rw[Ù (by rfl),if_neg (by simp)]
  |true =>
   rw[Ó (by rfl)]
   by_cases h2:(CB L u 0 l).1=v
   ·rw[Ó (by rw[h2]; exact bne_self_eq_false' _),if_pos ⟨rfl,h2⟩]
   ·rw[Ù (bne_iff_ne.2 h2),if_neg (fun h=>h2 h.2)]
 ·rw[Ù (bne_iff_ne.2 h),if_pos h]
def QE {ρ α:Type} (x:α) (t:List α) (f:α→Option ρ):ò (x::t) (0:Int) f=f x:=rfl
def TH (hS:iI L N) (l:List Int):mF ((N:Int),L) l=some (wg L l):=by
 have hl3:=hS.len;unfold mF rW wg;rw[lG hS,À,Ó (by rfl),UQ _ (by omega),À]
 by_cases h:lg L l=0
 ·rw[Ó (by rw[h]; rfl),if_neg (by simp[h])]
  cases l with
  |nil=>rw[å]; rfl
  |cons i t =>
   have hx:=(adC h).2 i (by simp);have hg:L[i.toNat]?=some L[i.toNat]:=List.getElem?_eq_getElem hx.2;generalize L[i.toNat]=x at hg;rw[å,Ó (beq_eq_false_iff_ne.2 (by simp; omega)),QE,mh hx.1 hg,aho hS x.1 h,À];dsimp only;rw[hg];dsimp only[Option.getD_some];generalize CB L x.1 0 (i::t)=w;obtain⟨e,sum,ok⟩:=w;unfold amy;dsimp only
   cases ok with
   |false=>rw[Ù (by rfl),if_neg (by simp)]
   |true =>
    rw[Ó (by rfl)]
    by_cases h2:e=x.1
    ·rw[Ó (by rw[h2]; exact bne_self_eq_false' _)]
     by_cases h3:sum<0
     ·rw[Ó (decide_eq_false (by omega)),if_pos ⟨rfl,h2,h3⟩]
     ·rw[Ù (decide_eq_true (by omega)),if_neg (fun h=>h3 h.2.2)]
    ·rw[Ù (bne_iff_ne.2 h2),if_neg (fun h=>h2 h.2.1)]
 ·rw[Ù (bne_iff_ne.2 h),if_pos h]
end
def oK (c:amd):Int :=
 if ã c.1≠0 then ã c.1 else if sn c.1 c.2.1.1 c.2.1.2=0 then 5 else
 if c.2.2.1 then(if ŷ (æ c.1) 0 (sn c.1 c.2.1.1 c.2.1.2) c.2.2.2.2=(c.2.2.2.1,0) then 0 else 8)
 else(if ŷ (æ c.1) (sn c.1 c.2.1.1 c.2.1.2) 0 c.2.2.2.2=(-c.2.2.2.1,0) then 0 else 8)
def pZ (c:amd):Int :=
 if ã c.1≠0 then ã c.1 else if c.2.1≠(0,0)∨c.2.2.1=true∨c.2.2.2.1≠0 then 1 else if wg (æ c.1) c.2.2.2.2=0 then 0 else 8
def aea (b:Þ) (c:amd):Bool×Int :=
 if ã b≠0 then(false,ã b) else
 if c.2.1=(0,0) then(if pZ c≠0 then(false,pZ c) else(IB c.1 b,0)) else(if oK c≠0 then(false,oK c) else(IB c.1 b,0))
def wr_neg {n:Int} (h:I64 n):amF (0-n)=if n = -9223372036854775808 then n else -n:=by
 have e:amF (0-n)=if (0-n) % 18446744073709551616≥9223372036854775808 then(0-n) % 18446744073709551616-18446744073709551616 else(0-n) % 18446744073709551616:=by
  simp[amF,IntKind.wrap,IntKind.bits,IntKind.signed]
 rw[e];unfold I64 at h
 split<;>split<;>omega
def LW {c:amd} (hI:In c.1) (hv:I64 c.2.2.2.1):lq c=some (oK c):=by
 unfold lq vc oK;rw[ź hI.size hI.num,À]
 by_cases hc:ã c.1=0
 ·have hg:=(ä c.1).1 hc;rw[Ó (by simp[ine,hc]),if_neg (show ¬(ã c.1≠0) from fun h=>h hc),zD hI,À,we hg,pW hI,À,jr hg];dsimp only
  by_cases h0:sn c.1 c.2.1.1 c.2.1.2=0
  ·rw[if_pos h0,if_pos h0]; rfl
  ·have hN:=hg.sys;have hr:=ų c.1 c.2.1;have hz:=ψ c.1;rw[if_neg h0,if_neg h0,Ó (by rfl),show(((Î c.1).length:Int)+1)=(((Î c.1).length+1:Nat):Int) by push_cast; rfl];dsimp only;rw[show(∀f:Int→Option Int,ck (0-c.2.2.2.1) f=f (amF (0-c.2.2.2.1))) from fun f=>rfl,wr_neg hv]
   have key:∀(u v:Int) (t t':Int),(t'=t∨(t' = -9223372036854775808∧t=9223372036854775808))→(ifb (ine (ŷ (æ c.1) u v c.2.2.2.2).2 0) (some (8:Int)) (ifb (ine (ŷ (æ c.1) u v c.2.2.2.2).1 t') (some 8) (some 0)))=some (if ŷ (æ c.1) u v c.2.2.2.2=(t,0) then 0 else 8):=by
    intro u v t t' ht
    have hb : -9000000000000000000≤(ŷ (æ c.1) u v c.2.2.2.2).1∧(ŷ (æ c.1) u v c.2.2.2.2).1≤9000000000000000000:=by
     unfold ŷ
     split
     ·simp
     ·rename_i hi
      split
      ·have:=ahp hN c.2.2.2.2 u 0 0 (by simp);have:=(adC (by simpa using hi)).1;dsimp only;omega
      ·simp
    generalize ŷ (æ c.1) u v c.2.2.2.2=p at hb ⊢
    by_cases h2:p.2=0
    ·rw[Ó (by rw[h2]; rfl)]
     by_cases h1:p.1=t'
     ·have:p=(t,0):=Prod.ext (by rcases ht with h|h<;>omega) h2
      rw[Ó (by rw[h1]; exact bne_self_eq_false' _),if_pos this]
     ·have:¬p=(t,0):=fun e=>by
       have e1:p.1=t:=by rw[e]
       rcases ht with h|h<;>omega
      rw[Ù (bne_iff_ne.2 h1),if_neg this]
    ·have:¬p=(t,0):=fun e=>h2 (by rw[e]);rw[Ù (bne_iff_ne.2 h2),if_neg this]
   unfold I64 at hv
   cases c.2.2.1 with
   |true =>
    rw[Ō,Im hN hz hr,À,key _ _ _ _ (.inl rfl)];rfl
   |false =>
    rw[é,Im hN hr hz,À,key _ _ (-c.2.2.2.1) _ (by split<;>omega)]
    rfl
 ·rw[Ù (by simp[ine,hc]),if_pos hc]
def YC {c:amd} (hI:In c.1):mE c=some (pZ c):=by
 unfold mE rQ pZ;rw[ź hI.size hI.num,À]
 by_cases hc:ã c.1=0
 ·have hg:=(ä c.1).1 hc;rw[Ó (by simp[ine,hc]),if_neg (show ¬(ã c.1≠0) from fun h=>h hc)]
  by_cases h1:c.2.1=(0,0)
  ·have e1:(!((Ħ c.2.1.1 0)&&((Ħ c.2.1.2 0)&&true)))=false:=by rw[h1]; rfl
   rw[e1,é]
   cases h2:c.2.2.1 with
   |true=>rw[Ō,if_pos (.inr (.inl rfl))]
   |false =>
    rw[é]
    by_cases h3:c.2.2.2.1=0
    ·rw[Ó (by rw[h3]; rfl),if_neg (by simp[h1,h3]),pW hI,À,jr hg,show(((Î c.1).length:Int)+1)=(((Î c.1).length+1:Nat):Int) by push_cast; rfl];dsimp only;rw[TH hg.sys,À]
     by_cases h4:wg (æ c.1) c.2.2.2.2=0
     ·rw[Ó (by rw[h4]; rfl),if_pos h4]
     ·rw[Ù (bne_iff_ne.2 h4),if_neg h4]
    ·rw[Ù (bne_iff_ne.2 h3),if_pos (.inr (.inr h3))]
  ·have e1:(!((Ħ c.2.1.1 0)&&((Ħ c.2.1.2 0)&&true)))=true:=by
    rw[Prod.ext_iff] at h1;simp[Ħ];dsimp only at h1;omega
   rw[e1,Ō,if_pos (.inl h1)]
 ·rw[Ù (by simp[ine,hc]),if_pos hc]
def aj5 {b:Þ} {c:amd} (hb:In b) (hI:In c.1) (hv:I64 c.2.2.2.1):Al b c=some (aea b c):=by
 unfold Al Ji aea;rw[ź hb.size hb.num,À]
 by_cases hc:ã b=0
 ·rw[Ó (by simp[ine,hc]),if_neg (show ¬(ã b≠0) from fun h=>h hc)]
  by_cases h1:c.2.1=(0,0)
  ·have e1:((Ħ c.2.1.1 0)&&((Ħ c.2.1.2 0)&&true))=true:=by rw[h1]; rfl
   rw[e1,Ō,if_pos h1,YC hI,À]
   by_cases h2:pZ c=0
   ·rw[Ó (by rw[h2]; rfl),if_neg (by simp[h2]),part_ok hI.size hb.size,À]
   ·rw[Ù (bne_iff_ne.2 h2),if_pos h2]
  ·have e1:((Ħ c.2.1.1 0)&&((Ħ c.2.1.2 0)&&true))=false:=by
    rw[Prod.ext_iff] at h1;simp[Ħ];dsimp only at h1;omega
   rw[e1,é,if_neg h1,LW hI hv,À]
   by_cases h2:oK c=0
   ·rw[Ó (by rw[h2]; rfl),if_neg (by simp[h2]),part_ok hI.size hb.size,À]
   ·rw[Ù (bne_iff_ne.2 h2),if_pos h2]
 ·rw[Ù (by simp[ine,hc]),if_pos hc]
def NN (b:Þ) (l:List Int):List (Int×Int):=l.map fun i=>(Ŕ b)[i.toNat]?.getD (0,0)
def afV {b:Þ} (hg:ė b) (hn:∀g∈b.2.1,I64 g.2.2.2.2.1.1) {l:List Int} (hl:l.length≤1000) (hi:∀i∈l,0≤i∧i.toNat<(æ b).length):pN b l=some (NN b l):=by
 unfold pN Dh;rw[pW (hg.inn hn),À,jr hg];refine ü l (fun i=>NN b (l.take i)) _ rfl (fun i a hlt ha kn=>?_) (fun kn=>?_)
 ·try dsimp only
  unfold mA;have hx:=hi a (List.mem_of_getElem? ha);have hs:(Ŕ b)[a.toNat]?=some ((Ŕ b)[a.toNat]'(by rw[Vl hg]; exact hx.2)):=List.getElem?_eq_getElem _;generalize (Ŕ b)[a.toNat]'(by rw[Vl hg]; exact hx.2)=x at hs
  have hlen:(NN b (l.take i)).length≤1000:=by unfold NN; rw[List.length_map,List.length_take]; omega
  rw[Ô hlt,É ha,mh hx.1 hs,Ī (show ì ((NN b (l.take i)).length+[x].length)=true from Ø (show(NN b (l.take i)).length+1≤4294967296 by omega)),Í hlt (by omega),take_succ ha];unfold NN;rw[List.map_append,List.map_singleton,hs];rfl
 ·try dsimp only
  unfold mA;rw[â,List.take_length]
def src_ok {b:Þ}:∀s∈Ŕ b,anG b s:=by
 intro s hs;unfold Ŕ at hs;rcases List.mem_append.1 hs with h|h
 ·have:=abl s h; exact .inl this
 ·have:=abI s h; exact .inr this
def akE {b:Þ} (hg:ė b) {l:List Int} (hi:∀i∈l,0≤i∧i.toNat<(æ b).length):∀s∈NN b l,anG b s:=by
 intro s hs;obtain⟨i,h1,rfl⟩:=d8.1 hs;have hx:=hi i h1;have hsx:(Ŕ b)[i.toNat]?=some ((Ŕ b)[i.toNat]'(by rw[Vl hg]; exact hx.2)):=cO _;rw[hsx];exact src_ok _ (eE _)
section
variable {L:List Lk} {N:Nat}
def J2 (R:Nat→List Int) (good:Int→Bool):∀(k:Nat) (u sum:Int) (out:List Int),(∀i∈out,0≤i∧i.toNat<L.length)→(∀i∈sf L R good k u sum out,0≤i∧i.toNat<L.length)∧(sf L R good k u sum out).length≤out.length+k
 |0,u,sum,out,h=>⟨h,by simp[sf]⟩
 |k+1,u,sum,out,h=>by
  unfold sf
  cases hn:RJ L (R k) good u sum with
  |none =>
   have:=J2 R good k u sum out h;exact⟨this.1,by have:=this.2; dsimp only; omega⟩
  |some i =>
   have hi:i<L.length:=by
    unfold RJ at hn;exact(List.findIdx?_eq_some_iff_getElem.1 hn).1
   have:=J2 R good k (L[i]?.getD (0,0,0)).2.1 (sum+(L[i]?.getD (0,0,0)).2.2) (out++[(i:Int)]) (fun j hj=>by
    rcases cY.1 hj with h1|h1
    ·exact h j h1
    ·simp at h1; subst h1; simp; exact hi)
   exact⟨this.1,by have:=this.2; simp at this; dsimp only; omega⟩
def abL (N:Nat) (u v:Int):(∀i∈(RB L N u v).1,0≤i∧i.toNat<L.length)∧(RB L N u v).1.length≤N:=by
 unfold RB
 split
 ·simp
 ·cases h:(nN L N v N).findIdx? (fun x=>gv x u==(hZ L N u v).1) with
  |none=>simp
  |some k =>
   have hk:=(List.findIdx?_eq_some_iff_getElem.1 h).1;rw[kF] at hk;have:=J2 (L:=L) (exL L N v) (fun n=>ieq n (hZ L N u v).1) k u 0 [] (by simp);exact⟨this.1,by have:=this.2; simp at this; dsimp only; omega⟩
end
def LP (B:Þ) (n:Int×Int) (upper:Bool):List Int :=
 if upper then(RB (æ B) ((Î B).length+1) 0 (sn B n.1 n.2)).1 else(RB (æ B) ((Î B).length+1) (sn B n.1 n.2) 0).1
def xn (B:Þ) (n:Int×Int) (upper:Bool):Þ:=cutP B (NN B (LP B n upper)) [n]
def certR (B:Þ) (n:Int×Int) (upper:Bool):amd:=(xn B n upper,n,upper,(if upper then(ivR B n).2 else(ivR B n).1),LP (xn B n upper) n upper)
def ow (b:Þ) (n:Int×Int) (upper:Bool):amd×Int :=
 if (Ć b [n]).2≠0 then(ajr,(Ć b [n]).2) else
 if ã (xn (Ć b [n]).1 n upper)≠0 then(ajr,ã (xn (Ć b [n]).1 n upper)) else
 if ŏ (æ (xn (Ć b [n]).1 n upper)) ((Î (xn (Ć b [n]).1 n upper)).length+1) then(certR (Ć b [n]).1 n upper,0) else(ajr,9)
def agN {ρ:Type}:@rS ρ=@Ĉ ρ:=rfl
def ah5 {ρ:Type} (K:Option ρ):Ï (fun(v23:Int) kk25=>rR (0:Int) v23 (fun u24=>kk25 u24) (fun _=>K)) (0:Int)=K:=by
 refine ł (fun x=>x=0) (fun _=>0) (fun x hx=>.inl fun kn=>?_) rfl;rw[hx];rfl
def aem {B:Þ} (h:ė B) (hn:∀g∈B.2.1,I64 g.2.2.2.2.1.1) (n:Int×Int) (upper:Bool):lr (B,NH B) n upper=some (LP B n upper):=by
 unfold lr vd LP;rw[LU h hn,À,show(B,NH B).2=NH B from rfl,NG]
 cases upper with
 |true=>rw[Ō,afN h.sys (ψ B) (ų B n),À]; rfl
 |false=>rw[é,afN h.sys (ų B n) (ψ B),À]; rfl
def agL {B:Þ} (h:ė B) (n:Int×Int) (upper:Bool):(∀i∈LP B n upper,0≤i∧i.toNat<(æ B).length)∧(LP B n upper).length≤60:=by
 have hN:=h.sys.n60;unfold LP
 split
 ·have:=abL (L:=æ B) ((Î B).length+1) 0 (sn B n.1 n.2);exact⟨this.1,by have:=this.2; omega⟩
 ·have:=abL (L:=æ B) ((Î B).length+1) (sn B n.1 n.2) 0;exact⟨this.1,by have:=this.2; omega⟩
def Qx (w:List Int):∀(l:List Cmp) (i:Nat),∀c∈D7 w i l,c∈l
 |[],i,c,h=>by simp[D7] at h
 |a::l,i,c,h=>by
  simp only[D7] at h
  split at h
  ·rcases dc.1 h with h|h
   ·rw[h]; simp
   ·exact fN _ (Qx w l (i+1) c h)
  ·exact fN _ (Qx w l (i+1) c h)
def amu {b:Þ} (h:In b) (ss:List (Int×Int)) {looks:List (Int×Int)} (hl:looks.length≤1000):In (cutP b ss looks):=by
 obtain⟨hs,hn⟩:=h;have g1:=hs.gauges; have g2:=hs.uses; have g3:=hs.loans; have g4:=hs.compares;unfold cutP;refine⟨⟨?_,?_,?_,?_,hl,fun c hc=>hs.piles c (Qx _ _ _ c hc)⟩,fun g hg=>hn g (List.mem_filter.1 hg).1⟩
 ·exact dA (dJ _ _) g1
 ·exact dA (dJ _ _) g2
 ·exact dA (dJ _ _) g3
 ·exact dA (Qy _ _ _) g4
def ahe {b:Þ} (hI:In b) (n:Int×Int) (upper:Bool):vS b n upper=some (ow b n upper):=by
 unfold vS DM ow;rw[agN];refine(ql hI (ns:=[n]) (by simp) (fun e=>some (ajr,e)) (fun e he=>by rw[Ī (by simp[ine,he])]; rfl) (fun z he=>by rw[Ī (by simp[ine,he])]; rfl) (fun _ _ _=>rfl)).trans ?_
 split
 ·rfl
 ·rename_i e;have hr:=(iO hI (by simpa using e)).1;dsimp only;generalize (Ć b [n]).1=B at hr ⊢;have hci:=agL hr.good n upper;have hpi:In (xn B n upper):=amu (hr.good.inn hr.num) _ (by simp)
  rw[vM,show((((Î B).length:Int)+1,æ B):Sys)=NH B from rfl,aem hr.good hr.num,À,afV hr.good hr.num (by omega) hci.1,À,
   cut_ok hr.good.size (by unfold NN; rw[List.length_map]; omega) (by simp) (akE hr.good hci.1),À,show cutP B (NN B (LP B n upper)) [n]=xn B n upper from rfl,ź hpi.size hpi.num,À]
  by_cases hc:ã (xn B n upper)=0
  ·have hg:=(ä _).1 hc;rw[Ó (by simp[ine,hc]),if_neg (show ¬(ã (xn B n upper)≠0) from fun h=>h hc)];refine(ah5 _).trans ?_;rw[pW hpi,À,jr hg,Ó (by rfl)];dsimp only;rw[show((((Î (xn B n upper)).length:Int)+1,æ (xn B n upper)):Sys)=NH (xn B n upper) from rfl,NG (xn B n upper),Il hg.sys,À]
   cases ho:ŏ (æ (xn B n upper)) ((Î (xn B n upper)).length+1) with
   |false=>rw[if_neg (by simp)]; rfl
   |true =>
    rw[if_pos rfl,←NG (xn B n upper),Ó (by rfl),UL hr,À,aem hg hpi.num,À]
    cases upper with
    |true=>rw[Ō,HE hr,À]; rfl
    |false=>rfl
  ·rw[Ù (by simp[ine,hc]),if_pos hc,Ù (by simp[ine,hc])];rfl
def agI {L:List Lk} {N:Nat} (h:iI L N) (ho:ŏ L N=true):zl ((N:Int),L)=some ([],5):=by
 have hN:=h.n60;unfold zl PN;rw[lG h,À,Ó (by rfl),CD h.links h.n1 (by omega),À,if_pos ho];rfl
def acu {b:Þ} (hg:ė b) (hn:∀g∈b.2.1,I64 g.2.2.2.2.1.1) (ho:ŏ (æ b) ((Î b).length+1)=true):HT b=some (ajr,5):=by
 unfold HT PA;rw[pW (hg.inn hn),À,jr hg,Ó (by rfl),show((((Î b).length:Int)+1,æ b),Ŕ b,(0:Int)).1=NH b from rfl,NG,agI hg.sys ho,À];rfl
def agM {b:Þ} (h:In b) (n:Int×Int) (upper:Bool):In (ow b n upper).1.1:=by
 have h0:In ou:=⟨⟨by simp[ou],by simp[ou],by simp[ou],by simp[ou],by simp[ou],by simp[ou]⟩,by simp[ou]⟩;unfold ow
 by_cases e:(Ć b [n]).2=0
 ·rw[if_neg (by simp[e])];have hr:=(iO h e).1
  split
  ·exact h0
  ·split
   ·exact amu (hr.good.inn hr.num) _ (by simp)
   ·exact h0
 ·rw[if_pos e]; exact h0
def y1:nm exB (2,10)=((984,1011),0):=by decide +kernel
def y2:nm exB (1,30)=((964,1005),0):=by decide +kernel
def y3:jF exB (1,10) (2,10)=((-6,11),0):=by decide +kernel
def y4:aki exB 10 [1,2]=((1979,2018),0):=by decide +kernel
def y5:akp exB (2,0) (990,1010)=(3,0):=by decide +kernel
def y6:(ow exB (2,10) true).2=0∧(ow exB (2,10) true).1.2.2.2.1=1011:=by decide +kernel
def y7:afG exB (2,10) exC=(10,0):=by decide +kernel
def y8:NA exB (2,10) (900,1100) exC=(true,0):=by decide +kernel
def y9:aea exB (ow exB (2,10) true).1=(true,0):=by decide +kernel
def y10:ã exB=0∧ŏ (æ exB) ((Î exB).length+1)=true:=by decide +kernel
def y11:oK (ow exB (2,10) true).1=0:=by decide +kernel
def afY:þ=some true:=by
 unfold þ C1 zf xx;have hc:=agM zo (2,10) true
 have hv:I64 (ow exB (2,10) true).1.2.2.2.1:=by rw[y6.2]; unfold I64; omega
 rw[À];rw[show((((0:Int),(2:Int)),[((1:Int),(0:Int),(1000:Int),((-5:Int),(5:Int)),((1:Int),(10:Int)),(1:Int)),((2:Int),(0:Int),(1000:Int),((-50:Int),(50:Int)),((1:Int),(4:Int)),(0:Int))],[((1:Int),(10:Int))],[((1:Int),((20:Int),(29:Int)),(3:Int))],[((7:Int),(10:Int),[(1:Int)],[(2:Int)],(-20:Int),(1:Int),(100:Int),(200:Int))],([]:List (Int×Int))):Þ)=exB from rfl];rw[Ej zo,À,Ej zo,À,Vh zo,À,akh zo _ (by decide),À,amc zo,À,ahe zo,À,y1,y2,y3,y4,y5,y6.1,y6.2]
 rw[show zj exB ((2:Int),(10:Int)) ((8:Int),(10:Int),[(1:Int)],[(2:Int)],(0:Int),(0:Int),(0:Int),(0:Int))=some (afG exB (2,10) exC) from al3 zo _ (c:=exC) (by decide) (by decide),
  show pO exB ((2:Int),(10:Int)) ((900:Int),(1100:Int)) ((8:Int),(10:Int),[(1:Int)],[(2:Int)],(0:Int),(0:Int),(0:Int),(0:Int))=some (NA exB (2,10) (900,1100) exC) from ag8 zo _ _ (c:=exC) (by decide) (by decide),
  aj5 zo hc hv,acu ((ä _).1 y10.1) zo.num y10.2,LW hc hv,y7,y8,y9,y11]
 rfl
section
variable {B:Þ} (h:ahk B)
include h
end
def RH:Þ→List (Int×Int)→Þ×Bool
 |b,[]=>(b,true)
 |b,n::t=>if (jd b n).2≠0 then(b,false) else RH (jd b n).1 t
theorem aeC:∀(ns:List (Int×Int)) (b:Þ),(RH b ns).2=decide ((Ţ b ns).2=0)∧((Ţ b ns).2=0→RH b ns=((Ţ b ns).1,true))
 |[],b=>⟨rfl,fun _=>rfl⟩
 |n::t,b=>by
  unfold RH Ţ
  by_cases h:(jd b n).2=0
  ·rw[if_neg (by simp[h]),if_neg (by simp[h])];exact aeC t _
  ·rw[if_pos h,if_pos h];exact⟨by simp[h],fun e=>absurd e h⟩
abbrev anP:Type:=Int×Int×List í×List (Int×Int)×List LV×List Cmp×List (Int×Int)×Flat
def bk2 (s:anP):Þ:=((s.1,s.2.1),s.2.2.1,s.2.2.2.1,s.2.2.2.2.1,s.2.2.2.2.2.1,s.2.2.2.2.2.2.1)
theorem YF {b:Þ} (hg:ė b) (hn:∀g∈b.2.1,I64 g.2.2.2.2.1.1) {ns:List (Int×Int)} (hl:ns.length≤1000):Œ b ns=some (RH b ns):=by
 unfold Œ EZ;refine Hv ns (fun(i:Nat) (s:anP) (t:List (Int×Int))=>some (RH (bk2 s) t)) (fun i s=>ė (bk2 s)∧∀g∈(bk2 s).2.1,I64 g.2.2.2.2.1.1) (fun s hs kn=>?_) (fun i n t s hd hi ha hs kn hk=>?_) (s:=(b.1.1,b.1.2,b.2.1,b.2.2.1,b.2.2.2.1,b.2.2.2.2.1,b.2.2.2.2.2,0,0,[],[],[],[],[])) ⟨hg,hn⟩
 ·dsimp only;unfold mK;rw[â];rfl
 ·dsimp only;unfold mK;obtain⟨hs1,hs2⟩:=hs;have hin:In (bk2 s):=hs1.inn hs2;rw[Ô hi,É ha,É ha];rw[show Ģ ((s.1,s.2.1),s.2.2.1,s.2.2.2.1,s.2.2.2.2.1,s.2.2.2.2.2.1,s.2.2.2.2.2.2.1) n=Ģ (bk2 s) n from rfl,zD hin,À];rw[show Ÿ ((s.1,s.2.1),s.2.2.1,s.2.2.2.1,s.2.2.2.2.1,s.2.2.2.2.2.1,s.2.2.2.2.2.2.1) n=Ÿ (bk2 s) n from rfl,aec hin,À,we hs1]
  have hu:RH (bk2 s) (n::t)=if (jd (bk2 s) n).2≠0 then(bk2 s,false) else RH (jd (bk2 s) n).1 t:=rfl
  rw[hu]
  by_cases h0:sn (bk2 s) n.1 n.2=0
  ·rw[if_pos h0,Ó (by rfl)]
   by_cases h2:ã (kK (bk2 s) n)=0
   ·have e:jd (bk2 s) n=(kK (bk2 s) n,0):=by unfold jd; rw[if_neg (by simp[h0]),if_neg (by simp[h2])]
    have e2:M5 (bk2 s) n=(kK (bk2 s) n,0):=by unfold M5; rw[if_neg (by simp[(ä (bk2 s)).2 hs1]),if_neg (by simp[h2])]
    rw[e2,e,Ó (by rfl),Í hi (by omega),if_neg (show ¬((0:Int)≠0) by simp)];exact hk (s.1,s.2.1,s.2.2.1,s.2.2.2.1,s.2.2.2.2.1,s.2.2.2.2.2.1,s.2.2.2.2.2.2.1++[n],s.2.2.2.2.2.2.2) ⟨(ä _).1 h2,hs2⟩
   ·have e:jd (bk2 s) n=(ou,ã (kK (bk2 s) n)):=by unfold jd; rw[if_neg (by simp[h0]),if_pos h2]
    have e2:M5 (bk2 s) n=(ou,ã (kK (bk2 s) n)):=by unfold M5; rw[if_neg (by simp[(ä (bk2 s)).2 hs1]),if_pos h2]
    rw[e2,e,Ù (bne_iff_ne.2 h2),if_pos h2];rfl
  ·have e:jd (bk2 s) n=(bk2 s,0):=by unfold jd; rw[if_pos h0]
   rw[if_neg h0,Ù (by rfl),Í hi (by omega),e,if_neg (show ¬((0:Int)≠0) by simp)];exact hk s ⟨hs1,hs2⟩
theorem ael {b:Þ} (hI:In b) (hc:ã b≠0) (n:Int×Int) (t:List (Int×Int)) (hl:(n::t).length≤1000):Œ b (n::t)=some (b,false):=by
 unfold Œ EZ;refine ł (fun(v:Int×anP)=>v=(0,b.1.1,b.1.2,b.2.1,b.2.2.1,b.2.2.2.1,b.2.2.2.2.1,b.2.2.2.2.2,0,0,[],[],[],[],[])) (fun _=>0) (fun v hv=>.inl fun kn=>?_) rfl;subst hv;dsimp only;unfold mK
 have e1:Vg b n=(0,ã b):=by unfold Vg; rw[if_pos hc]
 have e2:M5 b n=(ou,ã b):=by unfold M5; rw[if_pos hc]
 rw[å,Ù (decide_eq_true (by rw[df]; omega)),QE,QE,show Ģ ((b.1.1,b.1.2),b.2.1,b.2.2.1,b.2.2.2.1,b.2.2.2.2.1,b.2.2.2.2.2) n=Ģ b n from rfl,zD hI,À,
  show Ÿ ((b.1.1,b.1.2),b.2.1,b.2.2.1,b.2.2.2.1,b.2.2.2.2.1,b.2.2.2.2.2) n=Ÿ b n from rfl,aec hI,À,e1,e2,Ó (beq_eq_false_iff_ne.2 hc),Ù (bne_iff_ne.2 hc)]
theorem akz {b:Þ} (hI:In b) {ns:List (Int×Int)} (hl:ns.length≤1000) (h0:ns≠[]):∃y:Þ×Bool,Œ b ns=some y∧(y.2=true↔ė b∧(Ţ b ns).2=0)∧(y.2=true→y=((Ţ b ns).1,true)):=by
 by_cases hc:ã b=0
 ·have hg:=(ä b).1 hc;have hr:=aeC ns b;refine⟨_,YF hg hI.num hl,⟨fun h=>⟨hg,by rw[hr.1] at h; exact of_decide_eq_true h⟩,fun h=>by rw[hr.1]; exact decide_eq_true h.2⟩,fun h=>hr.2 (by rw[hr.1] at h; exact of_decide_eq_true h)⟩
 ·cases ns with
  |nil=>exact absurd rfl h0
  |cons n t=>exact⟨_,ael hI hc n t hl,⟨fun h=>(Bool.noConfusion h),fun h=>absurd ((ä b).2 h.1) hc⟩,fun h=>Bool.noConfusion h⟩
def aeB:∀(ns:List (Int×Int)) {b:Þ},ė b→(∀g∈b.2.1,I64 g.2.2.2.2.1.1)→In (RH b ns).1
 |[],b,hg,hn=>hg.inn hn
 |n::t,b,hg,hn=>by
  unfold RH
  split
  ·exact hg.inn hn
  ·rename_i h
   have h':(jd b n).2=0:=by simpa using h
   exact aeB t (NJ hg h') (by rw[NK h']; exact hn)
def amG {b:Þ} (hI:In b) {ns:List (Int×Int)} (hl:ns.length≤1000) (h0:ns≠[]) {y:Þ×Bool} (hy:Œ b ns=some y):In y.1:=by
 by_cases hc:ã b=0
 ·have hg:=(ä b).1 hc;rw[YF hg hI.num hl] at hy;cases hy;exact aeB ns hg hI.num
 ·cases ns with
  |nil=>exact absurd rfl h0
  |cons n t =>
   rw[ael hI hc n t hl] at hy;cases hy;exact hI
def zC (n lo hi:Int):lm n lo hi=some (inP n lo hi):=by
 unfold lm acP inP ige ile
 cases h:decide (lo≤n)<;>simp_all
def Yz (n:Int):vQ n=some (Ct n):=by
 unfold vQ Wv;rw[zC]; rfl
def wd (s:Int×Int) (lo hi:Int):jo s lo hi=some (jJ s lo hi):=by
 unfold jo xA jJ ile
 cases decide (lo≤s.1)<;>cases decide (s.1≤s.2)<;>rfl
def anK {l:List Int} (hn:l.length≤1000000) (x:Int):Nw l x=some (l.contains x):=by
 unfold Nw Ws;refine Eq.trans (ķ l (fun a=>a==x) (fun _=>some true) (some true) (some false) (fun _=>rfl) (fun i a hi ha kn=>?_) (fun kn=>?_)) ?_
 ·try dsimp only
  unfold uP;rw[Ô hi,É ha,Í hi (by omega),ġ]
 ·try dsimp only
  unfold uP;rw[â]
 ·have:l.any (fun a=>a==x)=l.contains x:=by
   rw[dM,fu,er];constructor
   ·rintro⟨a,ha,e⟩; rw[←eq_of_beq e]; exact ha
   ·intro h; exact⟨x,h,by simp⟩
  rw[this]
  cases l.contains x<;>rfl
def ago {a b:List Int} {i:Nat} {x:Int} (h:a[i]?=some x):ê (a.take (i+1)) b=ê (a.take i) b++if b.contains x then[] else[x]:=by
 rw[take_succ h,ê,ê,gx];congr 1
 cases hx:b.contains x<;>simp only[dT,hx,dN,f7,dl,if_false,if_true,dW]
def Yy {a b:List Int} (ha:a.length≤1000000) (hb:b.length≤1000000):jR a b=some (ê a b):=by
 unfold jR OW;refine ü a (fun i=>ê (a.take i) b) _ rfl (fun i x hi hx kn=>?_) (fun kn=>?_)
 ·try dsimp only
  unfold qz
  have hl:(ê (a.take i) b).length≤1000000:=by
   have:=za (a.take i) b;rw[di] at this;omega
  rw[Ô hi,É hx,anK hb,À,ago hx]
  cases b.contains x with
  |true=>rw[Ó (by rfl),Í hi (by omega)]; simp
  |false=>rw[Ù (by rfl),É hx,Ø (by simp only[dF]; omega),Am.iff_true,Í hi (by omega)]; simp
 ·try dsimp only
  unfold qz;rw[â,List.take_length]
def L5 (a b:List Int):Int:=(ê a b).head?.getD 0
def Kr {a b:List Int} (ha:a.length≤1000000) (hb:b.length≤1000000):oh a b=some (L5 a b):=by
 unfold oh V7 L5;rw[Yy ha hb,À,å]
 cases h:ê a b with
 |nil=>rfl
 |cons x t =>
  rw[Ó (by simp[ieq]; omega)];exact É (i:=0) rfl _
def NB {b:Þ} (hn:b.2.1.length≤1000000) (id:Int):pK b id=some (match b.2.1.findIdx? (fun g=>g.1==id) with|some j=>(j:Int)|none=>-1):=by
 unfold pK O1;refine Eq.trans (gZ b.2.1 (fun g=>g.1==id) (fun z=>some z) (some (-1)) (fun i a hi ha kn=>?_) (fun kn=>?_)) ?_
 ·try dsimp only
  unfold qA;rw[Ô hi,É ha,Í hi (by omega),ġ]
 ·try dsimp only
  unfold qA;rw[â]
 ·cases List.findIdx? (fun g:í=>g.1==id) b.2.1<;>rfl
def zZ {b:Þ} {id:Int}:(∃j g,b.2.1.findIdx? (fun g=>g.1==id)=some j∧b.2.1[j]?=some g∧ť b id=some g)∨(b.2.1.findIdx? (fun g=>g.1==id)=none∧ť b id=none):=by
 unfold ť;rw[XZ]
 cases h:b.2.1.findIdx? (fun g=>g.1==id) with
 |none=>exact .inr ⟨rfl,rfl⟩
 |some j =>
  obtain⟨hj,_,_⟩:=dL.1 h;exact .inl ⟨j,_,rfl,cO hj,cO hj⟩
def ξ (b:Þ) (id day:Int):Int:=match ť b id with|some g=>if day<g.2.1 then 4 else 0|none=>5
def Ik {b:Þ} (hn:b.2.1.length≤1000000) (id day:Int):mi b id day=some (ξ b id day):=by
 unfold mi IX ξ;rw[NB hn,À];rcases zZ (b:=b) (id:=id) with⟨j,g,h1,h2,h3⟩|⟨h1,h2⟩
 ·rw[h1,h3]
  try dsimp only
  rw[Ó (by simp[ilt]),É h2,ġ]
  by_cases hd:day<g.2.1
  ·rw[if_pos (by simpa[ilt] using hd),if_pos hd]
  ·rw[if_neg (by simpa[ilt] using hd),if_neg hd]
 ·rw[h1,h2];rfl
def CE {b:Þ} (hi:b.2.1.Pairwise fun a b=>a.1<b.1) (id day:Int):ξ b id day=mJ (ir b) id day:=by
 unfold ξ mJ;rw[zL hi]
 cases ť b id<;>rfl
def afK {b:Þ} (hn:b.2.2.2.1.length≤1000000) (id day:Int):zi b id day=some (match lC b id day with|some l=>(l,true)|none=>((0,(0,0),0),false)):=by
 unfold zi OU;refine aiv b.2.2.2.1 (fun _=>((0:Int),(0:Int),(0:Int),(0:Int))) _ (fun i=>∀l∈b.2.2.2.1.take i,(l.1==id&&inP day l.2.1.1 l.2.1.2)=false) rfl (by simp) (fun i a hi ha hP kn=>?_) (fun hP kn=>?_)
 ·try dsimp only
  unfold qy;rw[Ô hi,É ha]
  by_cases hm:(a.1==id&&inP day a.2.1.1 a.2.1.2)=true
  ·refine .inl ?_;have hm2:=hm;simp only[inP,cR,beq_iff_eq,decide_eq_true_eq] at hm2;rw[Ù (by simp[ieq,hm2.1]),Ù (by simp[ile,hm2.2.1]),Ù (by simp[ile,hm2.2.2])]
   have hf:lC b id day=some a:=by
    unfold lC;obtain⟨hi',rfl⟩:=List.getElem?_eq_some_iff.1 ha;rw[List.find?_eq_some_iff_getElem];refine⟨hm,i,hi',rfl,fun j hj=>?_⟩;have:=hP b.2.2.2.1[j] (List.mem_iff_getElem.2 ⟨j,by rw[List.length_take]; omega,by rw[List.getElem_take]⟩);simp[this]
   rw[hf]
  ·refine .inr ⟨fun l hl=>?_,?_⟩
   ·rw[take_succ ha,cY,dg] at hl;rcases hl with hl|rfl
    ·exact hP l hl
    ·simpa using hm
   ·have hm2:=hm;simp only[inP,cR,beq_iff_eq,decide_eq_true_eq] at hm2
    by_cases h1:a.1=id
    ·by_cases h2:a.2.1.1≤day
     ·rw[Ù (by simp[ieq,h1]),Ù (by simp[ile,h2]),Ó (by simp[ile]; exact Int.lt_of_not_ge fun h3=>hm2 ⟨h1,h2,h3⟩),Í hi (by omega)]
     ·rw[Ù (by simp[ieq,h1]),Ó (by simp[ile]; omega),Í hi (by omega)]
    ·rw[Ó (by simp[ieq,h1]),Í hi (by omega)]
 ·try dsimp only
  unfold qy;rw[â]
  have:lC b id day=none:=by
   unfold lC;rw[List.find?_eq_none];intro l hl;have:=hP l (by rw[List.take_length]; exact hl);simp[this]
  rw[this]
def al9 {b:Þ} (hn:b.2.2.1.length≤1000000) (id day:Int):HM b id day=some (LY b id day):=by
 unfold HM OH;refine Eq.trans (ķ b.2.2.1 (fun u=>u.1==id&&u.2==day) (fun _=>some true) (some true) (some false) (fun _=>rfl) (fun i a hi ha kn=>?_) (fun kn=>?_)) ?_
 ·try dsimp only
  unfold qv;rw[Ô hi,É ha,É ha,Í hi (by omega)]
  cases h1:(a.1==id) with
  |false=>have:ieq a.1 id=false:=h1; simp[this]
  |true =>
   have:ieq a.1 id=true:=h1;rw[this]
   cases h2:(a.2==day) with
   |false=>have:ieq a.2 day=false:=h2; simp[this]
   |true=>have:ieq a.2 day=true:=h2; simp[this]
 ·try dsimp only
  unfold qv;rw[â]
 ·unfold LY
  cases b.2.2.1.any _<;>rfl
def akd (a b:Nat):Ai a b=some ((Nat.gcd a b:Nat):Int):=by
 unfold Ai WF;refine ł (fun x:Int×Int=>∃c d:Nat,x=((c:Int),(d:Int))∧Nat.gcd c d=Nat.gcd a b) (fun x=>x.2.toNat) ?_ ⟨a,b,rfl,rfl⟩;rintro x ⟨c,d,rfl,hg⟩
 cases d with
 |zero =>
  refine .inl fun kn=>?_;rw[Nat.gcd_zero_right] at hg;unfold uQ;simp[hg,ine]
 |succ d =>
  refine .inr ⟨(((d+1:Nat):Int),((c % (d+1):Nat):Int)),⟨d+1,c % (d+1),rfl,?_⟩,?_,fun kn=>?_⟩
  ·rw[←hg,gO c (d+1),Nat.gcd_rec (d+1) c,gO]
  ·have:=gy c (gu d);simp only[dt];omega
  ·unfold uQ
   have h1:ine ((d+1:Nat):Int) 0=true:=by simp[ine]; omega
   have h2:Ħ ((d+1:Nat):Int) 0=false:=by simp[Ħ]; omega
   simp only[h1,Ù Ó h2];congr 1
def akg {n:Int} (h : -9223372036854775807≤n∧n≤9223372036854775807):HP n=some (n.natAbs:Int):=by
 unfold HP WJ
 by_cases hn:n<0
 ·rw[Ù (by simpa[ilt] using hn),Ö (by omega) (by omega)];congr 1;omega
 ·rw[Ó (by simpa[ilt] using hn)];congr 1;omega
def aka (r:Int×Int):Ag r=some (Kz r):=by
 unfold Ag I3 Kz
 by_cases h1:1≤r.2
 ·rw[Ó (by simp[ilt]; omega)]
  by_cases h2:r.2≤2147483647
  ·rw[Ó (by simp[igt]; omega)]
   by_cases h3:r.1 < -2147483647
   ·rw[Ù (by simp[ilt]; omega)]
    have:¬((r.1.natAbs:Int)≤2147483647):=by omega
    simp[this]
   ·rw[Ó (by simp[ilt]; omega)]
    by_cases h4:2147483647<r.1
    ·rw[Ù (by simp[igt]; omega)]
     have:¬((r.1.natAbs:Int)≤2147483647):=by omega
     simp[this]
    ·rw[Ó (by simp[igt]; omega),akg ⟨by omega,by omega⟩,À]
     have h5:r.2=((r.2.natAbs:Nat):Int):=by omega
     have h6:((r.1.natAbs:Int)≤2147483647):=by omega
     rw[h5,akd,À,←h5];congr 1;rw[dM];simp only[ieq,beq_iff_eq,h1,h2,h6,decide_true,dO,decide_eq_true_eq];omega
  ·rw[Ù (by simp[igt]; omega)];simp[h2]
 ·rw[Ù (by simp[ilt]; omega)];simp[h1]
def aj8 (g:í):Ad g=some (pH g):=by
 unfold Ad IV pH;rw[aka,zC,zC,Yz,zC,wd,zC];simp only[À]
 have e:igt g.2.2.2.2.1.2 100=!decide (g.2.2.2.2.1.2≤100):=by
  rw[dM]; simp[igt]
 rw[e]
 cases Kz g.2.2.2.2.1<;>cases inP g.2.2.2.2.1.1 (-1000) 1000<;>cases decide (g.2.2.2.2.1.2≤100)<;>cases inP g.1 1 1099511627776<;>cases Ct g.2.1<;>cases inP g.2.2.1 1 1125899906842624<;>cases jJ g.2.2.2.1 (-1073741824) 1073741824<;>rfl
def acC {l:List Int}:∀(m:List Int) (j:Nat) (x:Bool),ī (wX l) j m=some x→x=false:=by
 intro m
 induction m with
 |nil=>intro j x h; cases h
 |cons a m ih =>
  intro j x h;unfold ī at h
  cases hp:wX l j a with
  |none=>rw[hp] at h; exact ih _ _ h
  |some y =>
   rw[hp] at h;cases h;unfold wX at hp
   split at hp
   ·cases hp; rfl
   ·split at hp
    ·cases hp; rfl
    ·cases hp
def afJ {l:List Int} (hn:l.length≤1000000):zh l=some (ic l):=by
 unfold zh OL;refine Eq.trans (ky l (wX l) some (some (decide (l.length≤6))) (fun i a hi ha kn=>?_) (fun kn=>?_)) ?_
 ·try dsimp only
  unfold qw;rw[Ô hi,É ha,zC,À];unfold wX
  cases inP a 1 1099511627776 with
  |false=>rfl
  |true =>
   simp only[dN,é,dl,if_false];rcases fw i with h0|h0
   ·subst h0
    have:igt ((0:Nat):Int) 0=false:=by simp[igt]
    rw[Ó this,Í hi (by omega)];simp[Eh]
   ·obtain⟨q,hq⟩:=Ez hi h0
    have h1:igt (i:Int) 0=true:=by simp[igt]; omega
    rw[Ù h1,É ha,Q7 h0 (by omega),HA h0 hq];simp only[Eh,h0,decide_true,Bool.true_and,hq,Option.any_some];unfold ile
    cases h2:decide (a≤q) with
    |true=>rfl
    |false =>
     rw[é,Í hi (by omega)];rfl
 ·try dsimp only
  unfold qw;rw[â,å];simp[ile];omega
 ·unfold ic
  cases h:ī (wX l) 0 l with
  |none=>rfl
  |some x=>rw[acC _ _ _ h]
def aj6 {c:Cmp} (hA:c.2.2.1.length≤1000000) (hB:c.2.2.2.1.length≤1000000):Ab c=some (L6 c):=by
 unfold Ab IR L6;rw[afJ hA,afJ hB,zC,Yz,zC,zC,wd];simp only[À]
 cases ic c.2.2.1<;>cases ic c.2.2.2.1<;>cases inP c.1 1 1099511627776<;>cases Ct c.2.1<;>cases inP c.2.2.2.2.1 (-1125899906842624) 1125899906842624<;>cases inP c.2.2.2.2.2.1 0 1073741824<;>cases jJ c.2.2.2.2.2.2 (-10000) 10000<;>rfl
def YH (b:Þ) (u:Int×Int):Int:=if !Ct u.2 then 1 else ξ b u.1 u.2
def aep {b:Þ} (hi:b.2.1.Pairwise fun a b=>a.1<b.1) (u:Int×Int):YH b u=afQ (ir b) u.1 u.2:=by
 unfold YH afQ;rw[CE hi]
def afe (e:Int):Option Int:=if e=0 then none else some e
def J4 {α:Type} (E:Nat→α→Int):∀(k:Nat) (l:List α),ī (fun i a=>afe (E i a)) k l=(l.mapIdx fun i a=>E (i+k) a).find? (fun e=>e != 0)
 |_,[]=>rfl
 |k,a::t=>by
  unfold ī;rw[J4 E (k+1) t,List.mapIdx_cons,List.find?_cons];unfold afe
  by_cases h:E k a=0
  ·simp only[h,if_true,dm];have:((0:Int) != 0)=false:=rfl;rw[this]
   have e:(fun(i:Nat) (a:α)=>E (i+(k+1)) a)=fun i a=>E (i+1+k) a:=by
    funext i a;congr 1;omega
   rw[e]
  ·simp only[h,if_false,dm]
   have:(E k a != 0)=true:=by simpa using h
   rw[this]
def QM {α:Type} (E:Nat→α→Int) (l:List α):ī (fun i a=>afe (E i a)) 0 l=(l.mapIdx E).find? (fun e=>e != 0):=J4 E 0 l
def QN {α:Type} (E:α→Int) (l:List α):ī (fun _ a=>afe (E a)) 0 l=(l.map E).find? (fun e=>e != 0):=by
 rw[J4 (fun _ a=>E a) 0 l];congr 1
 exact List.ext_getElem (by simp) fun i h1 h2=>by simp
def al5 {b:Þ} (hs:Ŷ b):HK b=some (((b.2.2.1.map (YH b)).find? (fun e=>e != 0)).getD 0):=by
 have h1:=hs.gauges;have h2:=hs.uses;unfold HK Ox;refine Eq.trans (ky b.2.2.1 (fun _ u=>afe (YH b u)) some (some 0) (fun i a hi ha kn=>?_) (fun kn=>?_)) ?_
 ·try dsimp only
  unfold qp;rw[Ô hi,É ha,Yz,À];unfold YH afe
  cases Ct a.2 with
  |false=>rfl
  |true =>
   rw[Ó (by rfl),É ha,É ha,Ik (b:=((b.1.1,b.1.2),b.2.1,b.2.2.1,b.2.2.2.1,b.2.2.2.2.1,b.2.2.2.2.2)) (by simp only; omega),À,Í hi (by omega)];have e:ξ ((b.1.1,b.1.2),b.2.1,b.2.2.1,b.2.2.2.1,b.2.2.2.2.1,b.2.2.2.2.2) a.1 a.2=ξ b a.1 a.2:=rfl;rw[e]
   by_cases hz:ξ b a.1 a.2=0
   ·rw[Ó (by simp[ine,hz])]; simp[hz]
   ·rw[Ù (by simp[ine,hz])]; simp[hz]
 ·try dsimp only
  unfold qp;rw[â]
 ·rw[QN]
  cases List.find? (fun e=>e != 0) (b.2.2.1.map (YH b))<;>rfl
def Tz (b:Þ) (i:Nat) (l:LV):Int :=
 if !jJ l.2.1 0 20000 then 1 else if !inP l.2.2 0 1048576 then 1 else if ξ b l.1 l.2.1.1 != 0 then ξ b l.1 l.2.1.1 else
 if (b.2.2.2.1.take i).any (fun x=>x.1==l.1&&(decide (x.2.1.1≤l.2.1.2)&&decide (l.2.1.1≤x.2.1.2))) then 9 else
 if b.2.2.1.any (fun u=>u.1==l.1&&inP u.2 l.2.1.1 l.2.1.2) then 9 else 0
def aiD {b:Þ} (hi:b.2.1.Pairwise fun a b=>a.1<b.1) (i:Nat) (l:LV):Tz b i l=TA b (ir b) i l:=by
 unfold Tz TA;rw[CE hi]
def aj7 {b:Þ} (hs:Ŷ b):Ac b=some (((b.2.2.2.1.mapIdx (Tz b)).find? (fun e=>e != 0)).getD 0):=by
 have h1:=hs.gauges;have h2:=hs.uses;have h3:=hs.loans;unfold Ac IT;refine Eq.trans (ky b.2.2.2.1 (fun i l=>afe (Tz b i l)) some (some 0) (fun i l hi hl kn=>?_) (fun kn=>?_)) ?_
 ·try dsimp only
  unfold nR;rw[Ô hi,É hl,wd,À];unfold Tz afe
  cases jJ l.2.1 0 20000 with
  |false=>rfl
  |true =>
  rw[Ó (by rfl),zC,À]
  cases inP l.2.2 0 1048576 with
  |false=>rfl
  |true =>
  rw[Ó (by rfl),Ik (b:=((b.1.1,b.1.2),b.2.1,b.2.2.1,b.2.2.2.1,b.2.2.2.2.1,b.2.2.2.2.2)) (by simp only; omega),À];have e:ξ ((b.1.1,b.1.2),b.2.1,b.2.2.1,b.2.2.2.1,b.2.2.2.2.1,b.2.2.2.2.2) l.1 l.2.1.1=ξ b l.1 l.2.1.1:=rfl;rw[e]
  by_cases hz:ξ b l.1 l.2.1.1=0
  ·rw[Ó (by simp[ine,hz])]
   have hl9:(b.2.2.2.1.take i).length=i:=by rw[di]; omega
   have inner:Ï (fun(v21:Int) kk23=>kV b.2.2.1 l.1 l.2.1.1 l.2.1.2 v21 (fun u22=>kk23 u22) (fun z18=>(some z18:Option Int)) (fun _=>ck ((i:Int)+(1:Int)) fun n20=>kn n20)) (0:Int)=if b.2.2.1.any (fun u=>u.1==l.1&&inP u.2 l.2.1.1 l.2.1.2) then some 9 else kn ((i:Int)+1):=by
    refine ķ b.2.2.1 _ (fun _=>some 9) (some 9) (kn ((i:Int)+1)) (fun _=>rfl) (fun j a hj ha kn'=>?_) (fun kn'=>?_)
    ·try dsimp only
     unfold kV;rw[Ô hj,É ha,É ha,zC,À,Í hj (by omega)]
     cases hq:(a.1==l.1) with
     |false=>have:ieq a.1 l.1=false:=hq; simp[this]
     |true =>
      have:ieq a.1 l.1=true:=hq;rw[this]
      cases inP a.2 l.2.1.1 l.2.1.2<;>simp
    ·try dsimp only
     unfold kV;rw[â];dsimp only;rw[Í hi (by omega)]
   try dsimp only
   rw[inner];refine eY (ķ (b.2.2.2.1.take i) (fun x=>x.1==l.1&&(decide (x.2.1.1≤l.2.1.2)&&decide (l.2.1.1≤x.2.1.2))) (fun _=>some 9) (some 9) (if b.2.2.1.any (fun u=>u.1==l.1&&inP u.2 l.2.1.1 l.2.1.2) then some 9 else kn ((i:Int)+1)) (fun _=>rfl) (fun j a hj ha kn'=>?_) (fun kn'=>?_)) ?_
   ·try dsimp only
    unfold nQ;rw[hl9] at hj
    have ha':b.2.2.2.1[j]?=some a:=by rwa [List.getElem?_take_of_lt hj] at ha
    rw[Ù (show ilt (j:Int) (i:Int)=true by simp[ilt]; omega),É ha',É ha',É ha',Í hj (by omega)]
    cases hq:(a.1==l.1) with
    |false=>have:ieq a.1 l.1=false:=hq; simp[this]
    |true =>
     have:ieq a.1 l.1=true:=hq;rw[this]
     cases h5:decide (a.2.1.1≤l.2.1.2)<;>cases h6:decide (l.2.1.1≤a.2.1.2)<;>simp[ile,h5,h6,ġ]<;>simp_all
   ·try dsimp only
    unfold nQ;rw[hl9,Ó (show ilt (i:Int) (i:Int)=false by simp[ilt])]
   ·simp only[hz]
    cases List.any (b.2.2.2.1.take i) _<;>cases b.2.2.1.any _<;>rfl
  ·rw[Ù (by simp[ine,hz])]; simp[hz]
 ·try dsimp only
  unfold nR;rw[â]
 ·rw[QM (Tz b)]
  cases(b.2.2.2.1.mapIdx (Tz b)).find? (fun e=>e != 0)<;>rfl
def Bb (b:Þ) (c:Cmp):Int :=
 if (c.2.2.1++c.2.2.2.1).any (fun id=>ξ b id c.2.1==5) then 5 else
 if (c.2.2.1++c.2.2.2.1).any (fun id=>ξ b id c.2.1 != 0) then 4 else
 if (c.2.2.1++c.2.2.2.1).any (fun id=>(lC b id c.2.1).isSome) then 9 else
 if 1<(ê c.2.2.1 c.2.2.2.1).length then 1 else if 1<(ê c.2.2.2.1 c.2.2.1).length then 1 else
 if (ê c.2.2.1 c.2.2.2.1).length+(ê c.2.2.2.1 c.2.2.1).length=0 then 1 else 0
def akT {b:Þ} (hi:b.2.1.Pairwise fun a b=>a.1<b.1) (c:Cmp):Bb b c=Bc b (ir b) c:=by
 unfold Bb Bc;simp only[CE hi]
 by_cases h5:(c.2.2.1++c.2.2.2.1).any (fun id=>mJ (ir b) id c.2.1==5)=true
 ·rw[if_pos h5,if_pos h5]
 ·rw[if_neg h5,if_neg h5]
  have e:(c.2.2.1++c.2.2.2.1).any (fun id=>mJ (ir b) id c.2.1 != 0)=(c.2.2.1++c.2.2.2.1).any (fun id=>mJ (ir b) id c.2.1==4):=by
   rw[dM,fu,fu];constructor
   ·rintro⟨x,hx,h⟩;refine⟨x,hx,?_⟩;rcases Oq (ir b) x c.2.1 with h1|h1|h1
    ·rw[h1] at h; cases h
    ·rw[h1]; rfl
    ·exact absurd (fu.2 ⟨x,hx,by rw[h1]; rfl⟩) h5
   ·rintro⟨x,hx,h⟩;refine⟨x,hx,?_⟩;rw[eq_of_beq h]; rfl
  rw[e]
def acq {b:Þ} {id d:Int}:(ξ b id d==5)=(b.2.1.findIdx? (fun g=>g.1==id)).isNone:=by
 unfold ξ;rcases zZ (b:=b) (id:=id) with⟨j,g,h1,h2,h3⟩|⟨h1,h2⟩
 ·rw[h1,h3]
  try dsimp only
  split<;>rfl
 ·rw[h1,h2]; rfl
set_option maxHeartbeats 1000000 in
def ab6 {b:Þ} (hs:Ŷ b) {c:Cmp} (hA:c.2.2.1.length≤1000) (hB:c.2.2.2.1.length≤1000):jC b c=some (Bb b c):=by
 have h1:=hs.gauges;have h3:=hs.loans;unfold jC uL Bb;rw[Ø (by omega),Am.iff_true,List.nil_append,Ø (by omega),Am.iff_true]
 have hl:(c.2.2.1++c.2.2.2.1).length≤2000:=by rw[cW]; omega
 generalize hP:c.2.2.1++c.2.2.2.1=P at hl
 have hol:∀{i:Nat},i<P.length→((ile (0:Int) (i:Int))&&(ilt (i:Int) (ă P)))=true:=fun {i} hi=>by simp[ile,ilt,ă]; omega
 have third:Ï (fun(v19:Int) kk21=>Ζ b.1.1 b.1.2 b.2.1 b.2.2.1 b.2.2.2.1 b.2.2.2.2.1 b.2.2.2.2.2 c.2.1 P v19 (fun u20=>kk21 u20) (fun z14=>some z14) (fun _=>Â (jR c.2.2.1 c.2.2.2.1) fun r16=>Â (jR c.2.2.2.1 c.2.2.1) fun r17=>ifb (igt (Õ r16) (1:Int)) (some (1:Int)) (ifb (igt (Õ r17) (1:Int)) (some (1:Int)) (ck ((Õ r16)+(Õ r17)) fun n18=>ifb (ieq n18 (0:Int)) (some (1:Int)) (some (0:Int)))))) (0:Int) =
  some (if P.any (fun id=>(lC b id c.2.1).isSome) then 9 else if 1<(ê c.2.2.1 c.2.2.2.1).length then 1 else if 1<(ê c.2.2.2.1 c.2.2.1).length then 1 else if (ê c.2.2.1 c.2.2.2.1).length+(ê c.2.2.2.1 c.2.2.1).length=0 then 1 else 0):=by
  refine eY (ķ P (fun id=>(lC b id c.2.1).isSome) (fun _=>some 9) (some 9) (some (if 1<(ê c.2.2.1 c.2.2.2.1).length then 1 else if 1<(ê c.2.2.2.1 c.2.2.1).length then 1 else if (ê c.2.2.1 c.2.2.2.1).length+(ê c.2.2.2.1 c.2.2.1).length=0 then 1 else 0)) (fun _=>rfl) (fun i a hi ha kn=>?_) (fun kn=>?_)) ?_
  ·try dsimp only
   unfold Ζ;rw[Ô hi,Ī (hol hi),Ĥ ha,afK (b:=((b.1.1,b.1.2),b.2.1,b.2.2.1,b.2.2.2.1,b.2.2.2.2.1,b.2.2.2.2.2)) (by simp only; omega),À,Í hi (by omega)];have e:lC ((b.1.1,b.1.2),b.2.1,b.2.2.1,b.2.2.2.1,b.2.2.2.2.1,b.2.2.2.2.2) a c.2.1=lC b a c.2.1:=rfl;rw[e]
   cases lC b a c.2.1<;>rfl
  ·try dsimp only
   unfold Ζ;rw[â];dsimp only;have l1:=za c.2.2.1 c.2.2.2.1;have l2:=za c.2.2.2.1 c.2.2.1;rw[Yy (by omega) (by omega),À,Yy (by omega) (by omega),À];simp only[å]
   by_cases q1:1<(ê c.2.2.1 c.2.2.2.1).length
   ·rw[Ù (by simp[igt]; omega),if_pos q1]
   ·rw[Ó (by simp[igt]; omega),if_neg q1]
    by_cases q2:1<(ê c.2.2.2.1 c.2.2.1).length
    ·rw[Ù (by simp[igt]; omega),if_pos q2]
    ·rw[Ó (by simp[igt]; omega),if_neg q2,Ö (by omega) (by omega)]
     by_cases q3:(ê c.2.2.1 c.2.2.2.1).length+(ê c.2.2.2.1 c.2.2.1).length=0
     ·rw[Ù (by simp[ieq]; omega),if_pos q3]
     ·rw[Ó (by simp[ieq]; omega),if_neg q3]
  ·cases P.any _<;>rfl
 have second:Ï (fun(v22:Int) kk24=>iQ b.1.1 b.1.2 b.2.1 b.2.2.1 b.2.2.2.1 b.2.2.2.2.1 b.2.2.2.2.2 c.2.1 P v22 (fun u23=>kk24 u23) (fun z9=>some z9) (fun _=>Ï (fun(v19:Int) kk21=>Ζ b.1.1 b.1.2 b.2.1 b.2.2.1 b.2.2.2.1 b.2.2.2.2.1 b.2.2.2.2.2 c.2.1 P v19 (fun u20=>kk21 u20) (fun z14=>some z14) (fun _=>Â (jR c.2.2.1 c.2.2.2.1) fun r16=>Â (jR c.2.2.2.1 c.2.2.1) fun r17=>ifb (igt (Õ r16) (1:Int)) (some (1:Int)) (ifb (igt (Õ r17) (1:Int)) (some (1:Int)) (ck ((Õ r16)+(Õ r17)) fun n18=>ifb (ieq n18 (0:Int)) (some (1:Int)) (some (0:Int)))))) (0:Int))) (0:Int) =
  some (if P.any (fun id=>ξ b id c.2.1 != 0) then 4 else if P.any (fun id=>(lC b id c.2.1).isSome) then 9 else if 1<(ê c.2.2.1 c.2.2.2.1).length then 1 else if 1<(ê c.2.2.2.1 c.2.2.1).length then 1 else if (ê c.2.2.1 c.2.2.2.1).length+(ê c.2.2.2.1 c.2.2.1).length=0 then 1 else 0):=by
  rw[third];refine eY (ķ P (fun id=>ξ b id c.2.1 != 0) (fun _=>some 4) (some 4) (some (if P.any (fun id=>(lC b id c.2.1).isSome) then 9 else if 1<(ê c.2.2.1 c.2.2.2.1).length then 1 else if 1<(ê c.2.2.2.1 c.2.2.1).length then 1 else if (ê c.2.2.1 c.2.2.2.1).length+(ê c.2.2.2.1 c.2.2.1).length=0 then 1 else 0)) (fun _=>rfl) (fun i a hi ha kn=>?_) (fun kn=>?_)) ?_
  ·try dsimp only
   unfold iQ;rw[Ô hi,Ī (hol hi),Ĥ ha,Ik (b:=((b.1.1,b.1.2),b.2.1,b.2.2.1,b.2.2.2.1,b.2.2.2.2.1,b.2.2.2.2.2)) (by simp only; omega),À,Í hi (by omega)];have e:ξ ((b.1.1,b.1.2),b.2.1,b.2.2.1,b.2.2.2.1,b.2.2.2.2.1,b.2.2.2.2.2) a c.2.1=ξ b a c.2.1:=rfl;rw[e,ġ]
  ·try dsimp only
   unfold iQ;rw[â]
  ·cases P.any (fun id=>ξ b id c.2.1 != 0)<;>rfl
 rw[second];refine eY (ķ P (fun id=>ξ b id c.2.1==5) (fun _=>some 5) (some 5) (some (if P.any (fun id=>ξ b id c.2.1 != 0) then 4 else if P.any (fun id=>(lC b id c.2.1).isSome) then 9 else if 1<(ê c.2.2.1 c.2.2.2.1).length then 1 else if 1<(ê c.2.2.2.1 c.2.2.1).length then 1 else if (ê c.2.2.1 c.2.2.2.1).length+(ê c.2.2.2.1 c.2.2.1).length=0 then 1 else 0)) (fun _=>rfl) (fun i a hi ha kn=>?_) (fun kn=>?_)) ?_
 ·try dsimp only
  unfold jZ;rw[Ô hi,Ī (hol hi),Ĥ ha,NB (b:=((b.1.1,b.1.2),b.2.1,b.2.2.1,b.2.2.2.1,b.2.2.2.2.1,b.2.2.2.2.2)) (by simp only; omega),À,Í hi (by omega),acq]
  try dsimp only
  cases List.findIdx? (fun g:í=>g.1==a) b.2.1 with
  |none=>rfl
  |some j =>
   have:ilt (j:Int) 0=false:=by simp[ilt]
   rw[Ó this]; rfl
 ·try dsimp only
  unfold jZ;rw[â]
 ·cases P.any (fun id=>ξ b id c.2.1==5)<;>rfl
structure Pre (b:Þ):Prop where
 size:Ŷ b
 gauge:∀g∈b.2.1,pH g=true
 cmp:∀c∈b.2.2.2.2.1,Ct c.2.1=true∧(ê c.2.2.1 c.2.2.2.1).length≤1∧(ê c.2.2.2.1 c.2.2.1).length≤1
 look:∀n∈b.2.2.2.2.2,Ct n.2=true
def ZG {c:Cmp} (h:L6 c=true):Ct c.2.1=true:=by
 have:=((Ο c).1 h).2.1;simp[Ct,inP,this.1,this.2]
def ė.pre {b:Þ} (h:ė b):Pre b :=
 ⟨h.size,h.gauge,fun c hc=>⟨ZG (h.nums hc),(h.lefts hc).1,(h.lefts hc).2.1⟩,fun n hn=>(by have:=(YI h (h.looks n hn)).1; simp[Ct,inP,this.1,this.2])⟩
def VP {a b:List Int} (h:(ê a b).length≤1) {id:Int} (h0:id≠0):L5 a b=id↔id∈a∧id∉b:=by
 rw[←jP];unfold L5
 cases hl:ê a b with
 |nil =>
  simp only[List.head?_nil,Option.getD_none,fQ,iff_false];exact fun e=>h0 e.symm
 |cons x t =>
  have:t=[]:=by
   rw[hl] at h;simp only[df] at h;exact dk.1 (by omega)
  subst this;simp only[List.head?_cons,fH,dg];exact eq_comm
def M3 (b:Þ) (g:í) (d:Int):Bool :=
 g.2.1==d||b.2.2.2.2.1.any (fun c=>c.2.1==d&&(L5 c.2.2.1 c.2.2.2.1==g.1||L5 c.2.2.2.1 c.2.2.1==g.1))||b.2.2.2.2.2.any (fun n=>n.1==g.1&&n.2==d)
def al8 {b:Þ} (hs:Ŷ b) (g:í) (d:Int):HL b g d=some (M3 b g d):=by
 have h1:=hs.compares;have h2:=hs.looks;unfold HL OE M3
 cases hm:(g.2.1==d) with
 |true =>
  have:ieq g.2.1 d=true:=hm;rw[Ù this];simp
 |false =>
  have:ieq g.2.1 d=false:=hm;rw[Ó this]
  have inner:Ï (fun(v14:Int) kk16=>mQ d b.2.2.2.2.2 g.1 v14 (fun u15=>kk16 u15) (fun z12=>some z12) (fun _=>some false)) (0:Int)=some (b.2.2.2.2.2.any (fun n=>n.1==g.1&&n.2==d)):=by
   refine eY (ķ b.2.2.2.2.2 (fun n=>n.1==g.1&&n.2==d) (fun _=>some true) (some true) (some false) (fun _=>rfl) (fun i a hi ha kn=>?_) (fun kn=>?_)) ?_
   ·try dsimp only
    unfold mQ;rw[Ô hi,É ha,É ha,Í hi (by omega)]
    cases h1:(a.1==g.1) with
    |false=>have:ieq a.1 g.1=false:=h1; simp[this]
    |true =>
     have:ieq a.1 g.1=true:=h1;rw[this]
     cases h2:(a.2==d) with
     |false=>have:ieq a.2 d=false:=h2; simp[this]
     |true=>have:ieq a.2 d=true:=h2; simp[this]
   ·try dsimp only
    unfold mQ;rw[â]
   ·cases b.2.2.2.2.2.any _<;>rfl
  rw[inner];refine eY (ķ b.2.2.2.2.1 (fun c=>c.2.1==d&&(L5 c.2.2.1 c.2.2.2.1==g.1||L5 c.2.2.2.1 c.2.2.1==g.1)) (fun _=>some true) (some true) (some (b.2.2.2.2.2.any (fun n=>n.1==g.1&&n.2==d))) (fun _=>rfl) (fun i a hi ha kn=>?_) (fun kn=>?_)) ?_
  ·have hp:=hs.piles a (cZ ha)
   try dsimp only
   unfold qu;rw[Ô hi,É ha,Kr (by omega) (by omega),Kr (by omega) (by omega),Í hi (by omega)];simp only[À]
   cases h1:(a.2.1==d) with
   |false=>have:ieq a.2.1 d=false:=h1; simp[this]
   |true =>
    have:ieq a.2.1 d=true:=h1;rw[this]
    cases h2:(L5 a.2.2.1 a.2.2.2.1==g.1) with
    |true=>have:ieq (L5 a.2.2.1 a.2.2.2.1) g.1=true:=h2; simp[this]
    |false =>
     have:ieq (L5 a.2.2.1 a.2.2.2.1) g.1=false:=h2;rw[this]
     cases h3:(L5 a.2.2.2.1 a.2.2.1==g.1) with
     |true=>have:ieq (L5 a.2.2.2.1 a.2.2.1) g.1=true:=h3; simp[this]
     |false=>have:ieq (L5 a.2.2.2.1 a.2.2.1) g.1=false:=h3; simp[this]
  ·try dsimp only
   unfold qu;rw[â]
  ·cases b.2.2.2.2.1.any _<;>rfl
def ajZ {b:Þ} (h:Pre b) {g:í} (hg:g∈b.2.1) {d:Int}:M3 b g d=true↔d∈á b g:=by
 have hid:g.1≠0:=by
  have:=((tX g).1 (h.gauge g hg)).2.2.2.1;omega
 rw[jV];unfold M3;simp only[Bool.or_eq_true,List.any_eq_true,Bool.and_eq_true,beq_iff_eq,or_assoc];refine or_congr eq_comm (or_congr ?_ Iff.rfl);constructor
 ·rintro⟨c,hc,e,h1⟩;obtain⟨_,l1,l2⟩:=h.cmp c hc;refine⟨c,hc,?_,e⟩;rw[VP l1 hid,VP l2 hid] at h1;intro he;rw[dM,er,er] at he;rcases h1 with⟨x,y⟩|⟨x,y⟩
  ·exact y (he.1 x)
  ·exact y (he.2 x)
 ·rintro⟨c,hc,h1,e⟩;obtain⟨_,l1,l2⟩:=h.cmp c hc;refine⟨c,hc,e,?_⟩;rw[VP l1 hid,VP l2 hid]
  by_cases ha:g.1∈c.2.2.1
  ·by_cases hb:g.1∈c.2.2.2.1
   ·exact absurd (by rw[dM,er,er]; exact⟨fun _=>hb,fun _=>ha⟩) h1
   ·exact .inl ⟨ha,hb⟩
  ·by_cases hb:g.1∈c.2.2.2.1
   ·exact .inr ⟨hb,ha⟩
   ·exact absurd (by rw[dM,er,er]; exact⟨fun x=>absurd x ha,fun x=>absurd x hb⟩) h1
def nx (v:Int) (D:List Int):Int:=D.foldl (fun m d=>if v<d then min m d else m) 20001
def ah9 (v:Int) (D:List Int) (d:Int):nx v (D++[d])=if v<d then min (nx v D) d else nx v D:=by
 unfold nx;rw[List.foldl_append];rfl
def VQ (v:Int):∀D:List Int,nx v D≤20001∧(∀d∈D,v<d→nx v D≤d)∧(nx v D=20001∨(nx v D∈D∧v<nx v D)):=by
 suffices H:∀(n:Nat) (D:List Int),D.length=n→nx v D≤20001∧(∀d∈D,v<d→nx v D≤d)∧(nx v D=20001∨(nx v D∈D∧v<nx v D)) from fun D=>H _ D rfl
 intro n
 induction n with
 |zero =>
  intro D hD;rw[dk.1 hD];exact⟨ee _,by simp,.inl rfl⟩
 |succ n ih =>
  intro D' hD'
  obtain⟨D,d,rfl⟩:∃D d,D'=D++[d]:=by
   rcases List.eq_nil_or_concat D' with rfl|⟨L,b,rfl⟩
   ·simp at hD'
   ·exact⟨L,b,by simp⟩
  obtain⟨h1,h2,h3⟩:=ih D (by simpa using hD');rw[ah9]
  by_cases hd:v<d
  ·rw[if_pos hd];refine⟨by omega,fun x hx hv=>?_,?_⟩
   ·rcases cY.1 hx with hx|hx
    ·have:=h2 x hx hv; omega
    ·rw[dg] at hx; omega
   ·rcases Int.le_total (nx v D) d with h|h
    ·rw[Int.min_eq_left h];rcases h3 with h3|h3
     ·exact .inl h3
     ·exact .inr ⟨by simp[h3.1],h3.2⟩
    ·rw[Int.min_eq_right h];exact .inr ⟨by simp,hd⟩
  ·rw[if_neg hd];refine⟨h1,fun x hx hv=>?_,?_⟩
   ·rcases cY.1 hx with hx|hx
    ·exact h2 x hx hv
    ·rw[dg] at hx; omega
   ·rcases h3 with h3|h3
    ·exact .inl h3
    ·exact .inr ⟨by simp[h3.1],h3.2⟩
def am0 {D:List Int} (hD:D.length≤1000000) (v:Int) (K:Int→Option (List (Int×Int))) :
 Ï (fun(v18:Int×Int) kk21=>kW v D v18.1 v18.2 (fun u19 u20=>kk21 (u19,u20)) K) ((20001:Int),(0:Int))=K (nx v D):=by
 refine ł (fun x:Int×Int=>∃k:Nat,k≤D.length∧x=(nx v (D.take k),(k:Int))) (fun x=>D.length-x.2.toNat) ?_ ⟨0,by omega,rfl⟩;rintro x ⟨k,hk,rfl⟩;rcases dE k D.length with hlt|hge
 ·refine .inr ⟨(nx v (D.take (k+1)),((k+1:Nat):Int)),⟨k+1,hlt,rfl⟩,by simp only[Int.toNat_natCast]; omega,fun kn=>?_⟩;have ha:D[k]?=some D[k]:=List.getElem?_eq_getElem hlt;unfold kW;have ho:ă D=((D.length:Nat):Int):=rfl;rw[Ô hlt,ho,g9 hlt,Ĥ ha,take_succ ha,ah9]
  by_cases h:v<D[k]
  ·rw[Ù (by simpa[igt] using h),g9 hlt,Ĥ ha,Í hlt (by omega),if_pos h,D9];simp
  ·rw[Ó (by simpa[igt] using h),Í hlt (by omega),if_neg h];simp
 ·have:k=D.length:=by omega
  subst this;refine .inl fun kn=>?_;unfold kW;rw[â,List.take_length]
def ag5 (b:Þ) (g:í) (D:List Int) (v:Int):List Int:=(Y0 D).filter fun d=>decide (v<d)&&M3 b g d
def Rs {b:Þ} {g:í} {D:List Int} (hD:∀d∈D,d≤20000) (v:Int):ag5 b g D v=if nx v D<20001 then(if M3 b g (nx v D) then nx v D::ag5 b g D (nx v D) else ag5 b g D (nx v D)) else[]:=by
 obtain⟨h1,h2,h3⟩:=VQ v D;refine ad8 ((CG D).sublist List.filter_sublist) ?_ fun x=>?_
 ·split
  ·split
   ·rw[dH];refine⟨fun a ha=>?_,(CG D).sublist List.filter_sublist⟩;have:=(fD.1 ha).2;simp at this;omega
   ·exact(CG D).sublist List.filter_sublist
  ·exact List.Pairwise.nil
 ·have hm:∀v x,x∈ag5 b g D v↔x∈D∧v<x∧M3 b g x=true:=by
   intro v x;unfold ag5;rw[List.mem_filter,qi];simp
  rw[hm]
  split
  ·rename_i hlt
   have h4:nx v D∈D∧v<nx v D:=by
    rcases h3 with h3|h3
    ·omega
    ·exact h3
   split
   ·rename_i ha;rw[dc,hm];constructor
    ·rintro⟨a,c,e⟩;have:=h2 x a c;rcases Int.lt_or_eq_of_le this with h|h
     ·exact .inr ⟨a,h,e⟩
     ·exact .inl h.symm
    ·rintro(rfl|⟨a,c,e⟩)
     ·exact⟨h4.1,h4.2,ha⟩
     ·exact⟨a,by omega,e⟩
   ·rename_i ha;rw[hm];constructor
    ·rintro⟨a,c,e⟩;have:=h2 x a c;rcases Int.lt_or_eq_of_le this with h|h
     ·exact⟨a,h,e⟩
     ·rw[←h] at e; exact absurd e ha
    ·rintro⟨a,c,e⟩;exact⟨a,by omega,e⟩
  ·rename_i hge;constructor
   ·rintro⟨a,c,e⟩;have:=h2 x a c;have:=hD x a;omega
   ·intro h; cases h
def al1 {b:Þ} {g:í} {D:List Int} (v:Int):(ag5 b g D v).length≤D.length :=
 dA (dJ _ _) (Es D)
set_option maxHeartbeats 1000000 in
def alz {b:Þ} (hs:Ŷ b) {i:Nat} {g:í} (hg:b.2.1[i]?=some g) {D:List Int} (hl:D.length≤1000000) (hD:∀d∈D,d≤20000) {out:List (Int×Int)} (ho:out.length+D.length≤1000000000) (K:List (Int×Int)→Option (List (Int×Int))) :
 Ï (fun(v24:Int×List (Int×Int)) kk27=>kX (i:Int) b.1.1 b.1.2 b.2.1 b.2.2.1 b.2.2.2.1 b.2.2.2.2.1 b.2.2.2.2.2 D v24.1 v24.2 (fun u25 u26=>kk27 (u25,u26)) K) ((-1:Int),out)=K (out++(ag5 b g D (-1)).map fun d=>((g.1,d):Int×Int)):=by
 refine ł (fun x:Int×List (Int×Int)=>x.2++(ag5 b g D x.1).map (fun d=>((g.1,d):Int×Int))=out++(ag5 b g D (-1)).map fun d=>((g.1,d):Int×Int)) (fun x=>(20001-x.1).toNat) ?_ rfl;rintro⟨v,o⟩ hI;simp only at hI
 by_cases hv:v<20001
 ·obtain⟨h1,h2,h3⟩:=VQ v D
  have hlt:v<nx v D:=by
   rcases h3 with h3|h3
   ·omega
   ·exact h3.2
  refine .inr ⟨(nx v D,if nx v D<20001∧M3 b g (nx v D)=true then o++[(g.1,nx v D)] else o),?_,by simp only; omega,fun kn=>?_⟩
  ·rw[←hI];simp only;rw[Rs hD v]
   by_cases ha:nx v D<20001
   ·rw[if_pos ha]
    cases hq:M3 b g (nx v D) with
    |true=>rw[if_pos ⟨ha,rfl⟩,if_pos rfl]; simp
    |false=>rw[if_neg (by simp),if_neg (by simp)]
   ·rw[if_neg (by omega),if_neg ha]
    have:ag5 b g D (nx v D)=[]:=by
     have e:=Rs (b:=b) (g:=g) hD (nx v D);rw[e,if_neg];obtain⟨g1,g2,g3⟩:=VQ (nx v D) D;rcases g3 with g3|g3
     ·omega
     ·have:=hD _ g3.1; omega
    rw[this]
  ·unfold kX;rw[Ù (by simpa[ilt] using hv)];refine Eq.trans (am0 hl v _) ?_;dsimp only
   by_cases ha:nx v D<20001
   ·rw[Ù (by simpa[ilt] using ha),É hg,al8 (b:=((b.1.1,b.1.2),b.2.1,b.2.2.1,b.2.2.2.1,b.2.2.2.2.1,b.2.2.2.2.2)) ⟨hs.gauges,hs.uses,hs.loans,hs.compares,hs.looks,hs.piles⟩,À];have e:M3 ((b.1.1,b.1.2),b.2.1,b.2.2.1,b.2.2.2.1,b.2.2.2.2.1,b.2.2.2.2.2) g (nx v D)=M3 b g (nx v D):=rfl;rw[e]
    cases hq:M3 b g (nx v D) with
    |true =>
     have hol:o.length≤1000000000:=by
      have:=congrArg List.length hI;simp only[cW,dX] at this;have:=al1 (b:=b) (g:=g) (D:=D) (-1);omega
     rw[Ù rfl,É hg,Ø (by simp only[dF]; omega),Am.iff_true,if_pos ⟨ha,rfl⟩]
    |false=>rw[Ó rfl,if_neg (by simp)]
   ·rw[Ó (by simpa[ilt] using ha),if_neg (by omega)]
 ·refine .inl fun kn=>?_;unfold kX;rw[Ó (by simpa[ilt] using hv)]
  have:ag5 b g D v=[]:=by
   rw[Rs hD,if_neg];obtain⟨g1,g2,g3⟩:=VQ v D;rcases g3 with g3|g3
   ·omega
   ·have:=hD _ g3.1; omega
  rw[this] at hI;simp only[ft,dK] at hI;rw[hI]
def zA (b:Þ):List Int:=b.2.1.map (fun g=>g.2.1)++b.2.2.2.2.1.map (fun c=>c.2.1)++b.2.2.2.2.2.map fun n=>n.2
def ad9 {b:Þ} (hs:Ŷ b):(zA b).length≤3000:=by
 have h1:=hs.gauges; have h2:=hs.compares; have h3:=hs.looks;simp only[zA,cW,dX];omega
def Pre.days {b:Þ} (h:Pre b):∀d∈zA b,0≤d∧d≤20000:=by
 intro d hd;simp only[zA,cY,d8] at hd;rcases hd with(⟨g,hg,rfl⟩|⟨c,hc,rfl⟩)|⟨n,hn,rfl⟩
 ·have:=((tX g).1 (h.gauge g hg)).2.2.2.2.1;omega
 ·have:=(h.cmp c hc).1;simp only[Ct,inP,cR,decide_eq_true_eq] at this;exact this
 ·have:=h.look n hn;simp only[Ct,inP,cR,decide_eq_true_eq] at this;exact this
def aj0 {b:Þ} (h:Pre b) {g:í} (hg:g∈b.2.1):ag5 b g (zA b) (-1)=á b g:=by
 refine ad8 ((CG _).sublist List.filter_sublist) (vY b g) fun x=>?_;unfold ag5;rw[List.mem_filter,qi,Bool.and_eq_true,ajZ h hg,decide_eq_true_eq];constructor
 ·exact fun hx=>hx.2.2
 ·intro hx
  have hm:x∈zA b:=by
   simp only[zA,cY,d8];rcases jV.1 hx with e|⟨c,hc,_,e⟩|⟨n,hn,_,e⟩
   ·exact .inl (.inl ⟨g,hg,e.symm⟩)
   ·exact .inl (.inr ⟨c,hc,e⟩)
   ·exact .inr ⟨n,hn,e⟩
  have:=h.days x hm;exact⟨hm,by omega,hx⟩
def VZ {α:Type} (f:α→Int) (l:List α) (s:List Int) (i:Nat) {a:α} (ha:l[i]?=some a):s++(l.take (i+1)).map f=(s++(l.take i).map f)++[f a]:=by
 rw[take_succ ha,gP,dn]; rfl
def Ry {b:Þ} (h:Pre b):kB b=some (Î b):=by
 have h1:=h.size.gauges; have h2:=h.size.compares; have h3:=h.size.looks;have hl:=ad9 h.size;unfold kB IY;refine ü b.2.1 (fun i=>(b.2.1.take i).map (fun g=>g.2.1)) _ rfl (fun i a hi ha kn=>?_) (fun kn=>?_)
 ·try dsimp only
  unfold nW;have:=VZ (fun g:í=>g.2.1) b.2.1 [] i ha;simp only[List.nil_append] at this;rw[Ô hi,É ha,Ø (by simp only[List.length_map,List.length_take,List.length_singleton]; omega),Am.iff_true,Í hi (by omega),this]
 ·try dsimp only
  unfold nW;rw[â,List.take_length];dsimp only;refine ü b.2.2.2.2.1 (fun i=>b.2.1.map (fun g=>g.2.1)++(b.2.2.2.2.1.take i).map (fun c=>c.2.1)) _ (by simp) (fun i a hi ha kn=>?_) (fun kn=>?_)
  ·try dsimp only
   unfold nV;rw[Ô hi,É ha,Ø (by simp only[List.length_append,List.length_map,List.length_take,List.length_singleton]; omega),Am.iff_true,Í hi (by omega),VZ (fun c:Cmp=>c.2.1) b.2.2.2.2.1 _ i ha]
  ·try dsimp only
   unfold nV;rw[â,List.take_length];dsimp only;refine ü b.2.2.2.2.2 (fun i=>b.2.1.map (fun g=>g.2.1)++b.2.2.2.2.1.map (fun c=>c.2.1)++(b.2.2.2.2.2.take i).map (fun n=>n.2)) _ (by simp) (fun i a hi ha kn=>?_) (fun kn=>?_)
   ·try dsimp only
    unfold nT;rw[Ô hi,É ha,Ø (by simp only[List.length_append,List.length_map,List.length_take,List.length_singleton]; omega),Am.iff_true,Í hi (by omega),VZ (fun n:Int×Int=>n.2) b.2.2.2.2.2 _ i ha]
   ·try dsimp only
    unfold nT;rw[â,List.take_length];dsimp only;rw[show b.2.1.map (fun g=>g.2.1)++b.2.2.2.2.1.map (fun c=>c.2.1)++b.2.2.2.2.2.map (fun n=>n.2)=zA b from rfl];refine ü b.2.1 (fun i=>(b.2.1.take i).flatMap fun g=>(á b g).map fun d=>((g.1,d):Int×Int)) _ rfl (fun i g hi hg kn=>?_) (fun kn=>?_)
    ·try dsimp only
     unfold nS;rw[Ô hi]
     have hlen:((b.2.1.take i).flatMap fun g=>(á b g).map fun d=>((g.1,d):Int×Int)).length≤2001000:=by
      have:=vN (fun g:í=>(á b g).map fun d=>((g.1,d):Int×Int)) 2001 (fun g=>by rw[dX]; exact H7 h.size g) (b.2.1.take i);rw[di] at this;have:min i b.2.1.length*2001≤1000*2001:=dC _ (by omega);omega
     refine eY (alz h.size hg (by omega) (fun d hd=>(h.days d hd).2) (by omega) _) ?_;rw[Í hi (by omega),aj0 h (cZ hg),take_succ hg,eX];simp
    ·try dsimp only
     unfold nS;rw[â,List.take_length];rfl
def Vf {n d:Int} (hd:0<d) (hn:n.natAbs≤2147483647) (hd2:d≤2147483647):pL n d=some (nq n d,0):=by
 obtain⟨g,h0,hg,h1,h2⟩:=zH (n:=n) hd;have hr:=(jY _).1 (Vu hd hn hd2)
 have z:Ħ d 0=false:=by simp[Ħ]; omega
 have zg:Ħ (g:Int) 0=false:=by simp[Ħ]; omega
 unfold pL De
 by_cases hn0:n=0
 ·subst hn0
  have e:nq 0 d=(0,1):=by
   unfold nq
   have:(Nat.gcd (0:Int).natAbs d.natAbs:Int)=d:=by simp; omega
   rw[this,Int.ediv_self (by omega)];simp
  rw[Ó (by rfl),Ó z,Ö (by simp) (by simp),Ó z,Int.tdiv_self (by omega),Ö (by omega) (by omega),Int.zero_tdiv,e];rfl
 ·rw[Ù (by simpa[ine] using hn0),Ó z];have a0:(Int.tmod n d).natAbs=n.natAbs % d.natAbs:=gN n d;have hlt:=gy n.natAbs (show 0<d.natAbs by omega);rw[akg ⟨by omega,by omega⟩,À]
  have ed:d=((d.natAbs:Nat):Int):=by omega
  have eg:Ai ((Int.tmod n d).natAbs:Int) d=some (g:Int):=by
   have:=akd (Int.tmod n d).natAbs d.natAbs;rw[←ed] at this;rw[this,a0,hg];congr 2;rw[gO n.natAbs,Nat.gcd_rec d.natAbs n.natAbs]
  rw[eg,À,Ó zg]
  have q1:Int.tdiv n (g:Int)=(nq n d).1:=by
   conv=>lhs; rw[h1]
   exact gj _ (by omega)
  have q2:Int.tdiv d (g:Int)=(nq n d).2:=by
   conv=>lhs; rw[h2]
   exact gj _ (by omega)
  rw[q1,q2,Ö (by omega) (by omega),Ó zg,Ö (by omega) (by omega),Ó (by simp[igt]; omega),Ó (by simp[ilt]; omega),Ó (by simp[igt]; omega)]
def anJ {x y:Int×Int} (hx:qd x 1000 100) (hy:qd y 1000 100):Nx x y=some (subP x y,0):=by
 obtain⟨b1,b2,b3⟩:=Iq hx hy;have h1:=mw hx.num (show -100≤y.2∧y.2≤100 from⟨by have:=hy.pos; omega,hy.den⟩);have h2:=mw hy.num (show -100≤x.2∧x.2≤100 from⟨by have:=hx.pos; omega,hx.den⟩);have h3:=hy.num;unfold Nx WA X1 WC X2 WI;rw[Ö (by omega) (by omega),À];dsimp only
 have e:(0-y.1)*x.2 = -(y.1*x.2):=by rw[Int.zero_sub,Int.neg_mul]
 rw[Ö (by omega) (by omega),e,Ö (by omega) (by omega),Ö (by omega) (by omega),Ö (by omega) (by omega)]
 have e2:x.1*y.2 + -(y.1*x.2)=x.1*y.2-y.1*x.2:=by omega
 rw[e2,Vf b2 (by omega) (by omega),À,À];rfl
def akc {k:Int×Int} (hk:qd k 200000 10000) {n:Int} (hn : -10000≤n∧n≤10000):vR (n,1) k=some (ET k n,0):=by
 have b:=IK hk hn;have p:=hk.pos;have q:=hk.den;unfold vR WD;have e:n*k.1=k.1*n:=Int.mul_comm _ _;dsimp only;rw[e,Int.one_mul,Ö (by omega) (by omega),Ö (by omega) (by omega),Vf (by omega) (by omega) (by omega),À];rfl
def akb {k:Int×Int} (hk:qd k 200000 10000) {heat:Int×Int} (hh:jJ heat (-10000) 10000=true):Ah ((heat.1,1),(heat.2,1)) k=some (VM k heat,0):=by
 simp only[jJ,Bool.and_eq_true,decide_eq_true_eq] at hh;have hp:=hk.pos;rw[af4 (by omega) hh.2.1];unfold Ah I4 HN Pb;dsimp only;rw[akc hk ⟨by omega,by omega⟩,akc hk ⟨by omega,by omega⟩]
 by_cases hn:k.1<0
 ·rw[Ù (by simpa[ilt] using hn),if_pos hn];rfl
 ·rw[Ó (by simpa[ilt] using hn),if_neg hn];rfl
def aj9 {r:Int×Int} (h:Kz r=true):Aj r=some (r.1 / r.2):=by
 have:=(jY r).1 h;have e:=XY (n:=r.1) (d:=r.2) (by omega) (by omega);unfold uf GO at e;unfold Aj I6 QR O9;rw[e];rfl
def al7 {r:Int×Int} (h:Kz r=true):HO r=some (Kg r):=by
 have hr:=(jY r).1 h;unfold HO Pd adI acT
 have z:Ħ r.2 0=false:=by simp[Ħ]; omega
 have t:=Int.mul_tdiv_add_tmod r.1 r.2
 have b1 : -4000000000≤Int.tdiv r.1 r.2∧Int.tdiv r.1 r.2≤4000000000:=by
  have:=Int.natAbs_tdiv_le_natAbs r.1 r.2;omega
 have h5 : -r.2<Int.tmod r.1 r.2∧Int.tmod r.1 r.2<r.2:=by
  have h6:=gN r.1 r.2;have h7:=gy r.1.natAbs (show 0<r.2.natAbs by omega);omega
 rw[Ó z,Ö (by omega) (by omega),Ó z,ġ];unfold Kg
 by_cases hp:0<Int.tmod r.1 r.2
 ·rw[if_pos (by simpa[igt] using hp),Ö (by omega) (by omega),À];congr 1
  have : -r.1 / r.2 = -(Int.tdiv r.1 r.2)-1:=by
   refine(f0 (by omega)).2 ⟨?_,?_⟩
   ·rw[Int.sub_mul,Int.neg_mul,fI (Int.tdiv r.1 r.2)]; omega
   ·rw[Int.sub_mul,Int.neg_mul,fI (Int.tdiv r.1 r.2)]; omega
  omega
 ·rw[if_neg (by simpa[igt] using hp),À];congr 1
  have : -r.1 / r.2 = -(Int.tdiv r.1 r.2):=by
   refine(f0 (by omega)).2 ⟨?_,?_⟩
   ·rw[Int.neg_mul,fI (Int.tdiv r.1 r.2)]; omega
   ·rw[Int.neg_mul,fI (Int.tdiv r.1 r.2)]; omega
  omega
structure anQ (b:Þ) (c:Cmp):Prop where
 ok:aef b c
 ids:b.2.1.Pairwise fun a b=>a.1<b.1
 pile:∀x∈c.2.2.1++c.2.2.2.1,∃g,ť b x=some g
def ė.cmpIn {b:Þ} (h:ė b) {c:Cmp} (hc:c∈b.2.2.2.2.1):anQ b c:=⟨h.cmp hc,h.ids,fun x hx=>by obtain⟨⟨g,hg,_⟩,_⟩:=h.pile hc hx; exact⟨g,hg⟩⟩
def aef.ne {b:Þ} {c:Cmp} (h:aef b c):∀x∈c.2.2.1++c.2.2.2.1,x≠0:=by
 intro x hx;have hn:=(Ο c).1 h.nums;have h1:=((sw _).1 hn.2.2.2.2.2.1).1;have h2:=((sw _).1 hn.2.2.2.2.2.2).1;rcases cY.1 hx with hx|hx
 ·have:=h1 x hx; omega
 ·have:=h2 x hx; omega
def ab5 {b:Þ} (hs:Ŷ b) (hi:b.2.1.Pairwise fun a b=>a.1<b.1) {p q:List Int} (hx:∀x∈p,x≠0∧∃g,ť b x=some g):tY b (L5 p q)=some (Ex (ir b) (ê p q)):=by
 have h1:=hs.gauges;unfold tY IU
 cases hl:ê p q with
 |nil =>
  have:L5 p q=0:=by unfold L5; rw[hl]; rfl
  rw[this];rfl
 |cons x t =>
  have e:L5 p q=x:=by unfold L5; rw[hl]; rfl
  have hm:x∈p:=(jP.1 (show x∈ê p q by rw[hl]; simp)).1;obtain⟨h0,g,hg⟩:=hx x hm;rw[e,Ó (by simpa[ieq] using h0),NB (by omega),À];rcases zZ (b:=b) (id:=x) with⟨j,g',h2,h3,h4⟩|⟨h2,h3⟩
  ·rw[h2]
   try dsimp only
   rw[É h3];unfold Ex;dsimp only;rw[zL hi,h4]
  ·rw[h3] at hg; cases hg
def aha {b:Þ} (hs:Ŷ b) {c:Cmp} (h:anQ b c):vP b c=some (ĸ b c):=by
 have hn:=(Ο c).1 h.ok.nums;have ha:=ĭ hn.2.2.2.2.2.1;have hb:=ĭ hn.2.2.2.2.2.2;have hA:∀x∈c.2.2.1,x≠0∧∃g,ť b x=some g:=fun x hx=>⟨h.ok.ne x (by simp[hx]),h.pile x (by simp[hx])⟩;have hB:∀x∈c.2.2.2.1,x≠0∧∃g,ť b x=some g:=fun x hx=>⟨h.ok.ne x (by simp[hx]),h.pile x (by simp[hx])⟩;unfold vP Db;rw[Kr (by omega) (by omega),À,ab5 hs h.ids hA,À,Kr (by omega) (by omega),À,ab5 hs h.ids hB,À,anJ h.ok.r1 h.ok.r2,À]
 try dsimp only
 rw[akb (heat:=c.2.2.2.2.2.2) (NI h.ok.r1 h.ok.r2) hn.2.2.2.2.1,À];rfl
def ake {b:Þ} {c:Cmp} (hA:c.2.2.1.length≤1000) (hB:c.2.2.2.1.length≤1000) (h1:0≤b.1.1) (h2:b.1.1≤1000000) (h3:0≤b.1.2) (h4:b.1.2≤1000000):Af b c=some (jG b c):=by
 unfold Af I1 jG
 have e:∀n:Nat,Ek 0 ((n:Int)-1)=((n-1:Nat):Int):=by
  intro n;unfold Ek
  split<;>omega
 have bd:∀(n:Nat) (x:Int),n≤1000→0≤x→x≤1000000→0≤((n-1:Nat):Int)*x∧((n-1:Nat):Int)*x≤1000000000:=by
  intro n x hn h0 hx;refine⟨fG (by omega) h0,?_⟩;have:=fj (show((n-1:Nat):Int)≤1000 by omega) hx h0 (by omega);omega
 have b1:=bd _ _ hA h1 h2;have b2:=bd _ _ hA h3 h4;have b3:=bd _ _ hB h1 h2;have b4:=bd _ _ hB h3 h4;simp only[å];rw[Ö (by omega) (by omega),Ö (by omega) (by omega)];simp only[e];rw[Ö (by omega) (by omega),Ö (by omega) (by omega),Ö (by omega) (by omega),Ö (by omega) (by omega),Ö (by omega) (by omega),Ö (by omega) (by omega)]
def ama {b:Þ} (hs:Ŷ b) (hf:0≤b.1.1∧b.1.1≤b.1.2∧b.1.2≤1000000) {c:Cmp} (h:anQ b c):tZ b c=some (Ν b c):=by
 have hn:=(Ο c).1 h.ok.nums;have ha:=ĭ hn.2.2.2.2.2.1;have hb:=ĭ hn.2.2.2.2.2.2;obtain⟨q1,q2,b1,b2,b3⟩:=xg hf h.ok;have c1:=Ay q1;have c2:=vL q2;have fb:=vO (b:=b) (c:=c) (by omega) (by omega) (by omega) (by omega) (by omega) (by omega);have hd:=hn.2.2.1;unfold tZ OJ Ν;rw[aha hs h,À,ake (by omega) (by omega) (by omega) (by omega) (by omega) (by omega),À,aj9 q2.rat,al7 q1.rat];simp only[À];rw[Ö (by omega) (by omega),Ö (by omega) (by omega),Ö (by omega) (by omega),Ö (by omega) (by omega),Ö (by omega) (by omega),Ö (by omega) (by omega)]
section
variable {b:Þ}
def amb (h:ė b) {id:Int} {g:í} (hg:ť b id=some g) {f t:Int} (hf:0≤f∧f≤100000) (ht:t≤100000):t7 b id f t=some (iS b g f t):=by
 have hG:=h.nG;have hU:=h.nU;have hL:=h.nL;obtain⟨hgm,hid⟩:=nf hg;unfold t7 OS;rw[NB (by omega),À];rcases zZ (b:=b) (id:=id) with⟨j,g',h2,h3,h4⟩|⟨h2,h3⟩
 ·rw[h2]
  have:g'=g:=by rw[hg] at h4; exact(Option.some.inj h4).symm
  subst this
  try dsimp only
  rw[É h3];refine ł (fun x:Int×Int=>f≤x.2∧(x.2≤t∨x.2=f)∧x.1=iS b g' f x.2) (fun x=>(t-x.2).toNat) ?_ ⟨ee _,.inr rfl,(yX g' (ee _)).symm⟩;rintro⟨s,d⟩ ⟨hfd,hdt,hs⟩;simp only at hfd hdt hs;subst hs
  by_cases hd:d<t
  ·refine .inr ⟨(iS b g' f (d+1),d+1),⟨by simp only; omega,.inl (by simp only; omega),rfl⟩,by simp only; omega,fun kn=>?_⟩;have e:=Qu h g' hfd;have lb:=kh h hgm (f:=f) (t:=d) hf.1;have lb2:=kh h hgm (f:=f) (t:=d+1) hf.1;unfold qx;rw[Ù (by simpa[ilt] using hd),afK (b:=((b.1.1,b.1.2),b.2.1,b.2.2.1,b.2.2.2.1,b.2.2.2.2.1,b.2.2.2.2.2)) (by simp only; omega),À];have e1:lC ((b.1.1,b.1.2),b.2.1,b.2.2.1,b.2.2.2.1,b.2.2.2.2.1,b.2.2.2.2.2) id d=lC b id d:=rfl;rw[e1];unfold adN at e;rw[hid] at e
   cases ha:lC b id d with
   |some l =>
    rw[ha] at e;simp only at e;rw[Ù rfl]
    try dsimp only
    rw[←e,Ö (by omega) (by omega),Ö (by omega) (by omega)]
   |none =>
    rw[ha] at e;simp only at e;rw[Ó rfl,al9 (b:=((b.1.1,b.1.2),b.2.1,b.2.2.1,b.2.2.2.1,b.2.2.2.2.1,b.2.2.2.2.2)) (by simp only; omega),À];have e2:LY ((b.1.1,b.1.2),b.2.1,b.2.2.1,b.2.2.2.1,b.2.2.2.2.1,b.2.2.2.2.2) id d=LY b id d:=rfl;rw[e2]
    cases hu:LY b id d with
    |true =>
     rw[hu,if_pos rfl] at e;rw[Ù rfl]
     try dsimp only
     rw[←e,Ö (by omega) (by omega),Ö (by omega) (by omega)]
    |false =>
     rw[hu,if_neg (by simp)] at e;rw[Ó rfl,Ö (by omega) (by omega),e,fP]
  ·refine .inl fun kn=>?_;unfold qx;rw[Ó (by simpa[ilt] using hd)]
   have:iS b g' f d=iS b g' f t:=by
    rcases Int.lt_or_le t f with hlt|hge
    ·have:d=f:=by omega
     rw[this,yX g' (ee _),yX g' (by omega)]
    ·have:d=t:=by omega
     rw[this]
   rw[this]
 ·rw[h3] at hg; cases hg
end
def ab7 {b:Þ} (h:Pre b) (n:Int×Int):jD b n=some (sn b n.1 n.2):=by
 have hl:=IJ h.size;unfold jD IZ;rw[Ry h,À];refine Eq.trans (gZ (Î b) (fun m=>decide (n.1=m.1)&&decide (n.2=m.2)) (fun z=>some (z+1)) (some 0) (fun i a hi ha kn=>?_) (fun kn=>?_)) ?_
 ·try dsimp only
  unfold nX;rw[Ô hi,É ha,Í hi (by omega),Í hi (by omega),ġ,Bool.and_true]
  have e:(Ħ a.1 n.1&&Ħ a.2 n.2)=(decide (n.1=a.1)&&decide (n.2=a.2)):=by
   rw[dM];simp only[Ħ,cR,decide_eq_true_eq];exact and_congr eq_comm eq_comm
  rw[e]
 ·try dsimp only
  unfold nX;rw[â]
 ·unfold sn iv
  cases List.findIdx? (fun m=>decide (n.1=m.1)&&decide (n.2=m.2)) (Î b)<;>rfl
def aiQ {b:Þ} (h:Pre b) (p q:List Int) (d:Int):sn b (L5 p q) d=atP (Î b) (ê p q) d:=by
 unfold sn atP L5
 cases hl:ê p q with
 |nil =>
  simp only[List.head?_nil,Option.getD_none]
  have:iv (Î b) 0 d=none:=by
   unfold iv;rw[List.findIdx?_eq_none_iff];intro n hn;obtain⟨g,hg,hn⟩:=List.mem_flatMap.1 hn;obtain⟨e,_,rfl⟩:=List.mem_map.1 hn;have:=((tX g).1 (h.gauge g hg)).2.2.2.1
   have:¬((0:Int)=g.1):=by omega
   simp[this]
  rw[this]
 |cons x t=>rfl
section
variable {b:Þ}
def ak0 {k:Nat} (hk:k<(Î b).length):∃(i:Nat) (g:í) (j:Nat) (d:Int),b.2.1[i]?=some g∧(á b g)[j]?=some d∧k=off b i+j∧(Î b)[k]?=some (g.1,d):=by
 obtain⟨i,g,j,h1,h2,h3⟩:=aeT (b:=b) b.2.1.length (cQ _) k (by rw[ah7]; exact hk);have hd:(á b g)[j]?=some (á b g)[j]:=cO h2;exact⟨i,g,j,_,h1,hd,h3,by rw[h3]; exact Ni h1 hd⟩
def afZ (h:ė b) {i j:Nat} {g g':í} (hi:b.2.1[i]?=some g) (hj:b.2.1[j]?=some g') (he:g.1=g'.1):i=j∧g=g':=by
 obtain⟨h1,rfl⟩:=cX.1 hi;obtain⟨h2,rfl⟩:=cX.1 hj;have hp:=dI.1 h.ids;rcases Nat.lt_trichotomy i j with hlt|rfl|hlt
 ·have:=hp i j h1 h2 hlt; omega
 ·exact⟨rfl,rfl⟩
 ·have:=hp j i h2 h1 hlt; omega
def pI (b:Þ) (i:Nat) (g:í) (k:Nat):List Lk :=
 if k≤off b i then[] else[(0,(off b i:Int)+1,g.2.2.1+g.2.2.2.1.2),((off b i:Int)+1,0,-(g.2.2.1+g.2.2.2.1.1))] ++
  (List.range (min (k-off b i-1) ((á b g).length-1))).flatMap fun(k:Nat)=>[((off b i:Int)+1+k,(off b i:Int)+1+k+1,0),((off b i:Int)+1+k+1,(off b i:Int)+1+k,iS b g ((á b g)[k]?.getD 0) ((á b g)[k+1]?.getD 0))]
def iD (b:Þ) (i:Nat) (g:í) (k:Nat):List (Int×Int) :=
 if k≤off b i then[] else[(1,(i:Int)),(1,(i:Int))]++(List.range (min (k-off b i-1) ((á b g).length-1))).flatMap fun _=>[(2,(i:Int)),(2,(i:Int))]
def agt (h:ė b) {i:Nat} {g:í} (hg:b.2.1[i]?=some g):pI b i g (Î b).length=ú b g∧iD b i g (Î b).length=ø b i g:=by
 have ho:=ah6 h hg;have hp:=fY (j4 (b:=b) g)
 have e:min ((Î b).length-off b i-1) ((á b g).length-1)=(á b g).length-1:=by omega
 unfold pI iD ú ø;rw[if_neg (by omega),if_neg (by omega),e,afB h hg];exact⟨rfl,rfl⟩
def abn {i:Nat} {g:í} {k:Nat} (hk:k<off b i∨off b i+(á b g).length≤k) (hp:0<(á b g).length):pI b i g (k+1)=pI b i g k∧iD b i g (k+1)=iD b i g k:=by
 unfold pI iD;rcases hk with hk|hk
 ·rw[if_pos (by omega),if_pos (by omega),if_pos (by omega),if_pos (by omega)];exact⟨rfl,rfl⟩
 ·have e:min (k+1-off b i-1) ((á b g).length-1)=min (k-off b i-1) ((á b g).length-1):=by omega
  rw[if_neg (by omega),if_neg (by omega),if_neg (by omega),if_neg (by omega),e];exact⟨rfl,rfl⟩
def abo {i:Nat} {g:í}:pI b i g (off b i+1)=pI b i g (off b i)++[(0,(off b i:Int)+1,g.2.2.1+g.2.2.2.1.2),((off b i:Int)+1,0,-(g.2.2.1+g.2.2.2.1.1))]∧iD b i g (off b i+1)=iD b i g (off b i)++[(1,(i:Int)),(1,(i:Int))]:=by
 unfold pI iD;rw[if_neg (by omega),if_pos (Nat.le_refl _),if_neg (by omega),if_pos (Nat.le_refl _),show off b i+1-off b i-1=0 by omega,Nat.zero_min];exact⟨by simp,by simp⟩
def adF {i:Nat} {g:í} {j:Nat} (hj:j+1<(á b g).length):pI b i g (off b i+(j+1)+1)=pI b i g (off b i+(j+1))++[((off b i:Int)+1+j,(off b i:Int)+1+j+1,0),((off b i:Int)+1+j+1,(off b i:Int)+1+j,iS b g ((á b g)[j]?.getD 0) ((á b g)[j+1]?.getD 0))] ∧
 iD b i g (off b i+(j+1)+1)=iD b i g (off b i+(j+1))++[(2,(i:Int)),(2,(i:Int))]:=by
 unfold pI iD;rw[if_neg (by omega),if_neg (by omega),if_neg (by omega),if_neg (by omega),show min (off b i+(j+1)+1-off b i-1) ((á b g).length-1)=j+1 by omega,show min (off b i+(j+1)-off b i-1) ((á b g).length-1)=j by omega,sv,sv];exact⟨by simp,by simp⟩
def ags (i:Nat) (g:í) (k:Nat) (hd:(á b g).length≤59):(pI b i g k).length≤120∧(iD b i g k).length≤120:=by
 unfold pI iD;constructor
 ·split
  ·simp
  ·rw[cW,ŭ _ _ (fun _=>rfl)];simp only[df,du]; omega
 ·split
  ·simp
  ·rw[cW,ŭ _ _ (fun _=>rfl)];simp only[df,du]; omega
set_option maxHeartbeats 1000000 in
def ahv (h:ė b) {i:Nat} {g:í} (hg:b.2.1[i]?=some g) {L:List Lk} {S:List (Int×Int)} (hL:L.length≤100000) (hS:S.length≤100000) (K:List Lk×List (Int×Int)→Option (List Lk×List (Int×Int))) :
 Ï (fun(v21:Int×List Lk×List (Int×Int)) kk25=>oU (Î b) (i:Int) b.1.1 b.1.2 b.2.1 b.2.2.1 b.2.2.2.1 b.2.2.2.2.1 b.2.2.2.2.2 g.1 g.2.1 g.2.2.1 g.2.2.2.1.1 g.2.2.2.1.2 v21.1 v21.2.1 v21.2.2 (fun u22 u23 u24=>kk25 (u22,u23,u24)) K) ((0:Int),L,S)=K (L++ú b g,S++ø b i g):=by
 have hN:=h.nodes;have hgm:=cZ hg;have hdl:=H6 h hgm;have hp:=fY (j4 (b:=b) g);have hr:=h.gaugeR hgm;have r1:=hr.2.2.2.2.2.1;have r2:=hr.2.2.2.2.2.2.1;obtain⟨tl,htl⟩:=Q3 h hgm;refine ü (Î b) (fun k=>(L++pI b i g k,S++iD b i g k)) _ (by simp[pI,iD]) (fun k n hk hn kn=>?_) (fun kn=>?_)
 ·try dsimp only
  unfold oU;have gl:=ags (b:=b) i g k hdl;rw[Ô hk,É hn];obtain⟨i',g',j,d,h1,h2,h3,h4⟩:=ak0 hk
  have hnd:n=(g'.1,d):=by rw[hn] at h4; exact Option.some.inj h4
  by_cases hsame:n.1=g.1
  ·obtain⟨hi',hgg⟩:=afZ h h1 hg (by rw[hnd] at hsame; exact hsame);subst hgg;have hin:i'=i:=hi';rw[hin] at h3 h1;rw[Ó (by simp[ine,hsame]),É hn]
   have hdn:n.2=d:=by rw[hnd]
   rw[hdn]
   cases j with
   |zero =>
    have hdd:d=g'.2.1:=by rw[htl] at h2; simpa using h2.symm
    have hk0:k=off b i:=by omega
    rw[Ù (by simp[ieq,hdd])];obtain⟨e1,e2⟩:=abo (b:=b) (i:=i) (g:=g');rw[←hk0] at e1 e2;rw[Í hk (by omega),Ö (by omega) (by omega),Í hk (by omega),Ö (by omega) (by omega),Ö (by omega) (by omega),Ø (by simp only[cW,df,du]; omega),Am.iff_true,Ø (by simp only[cW,df,du]; omega),Am.iff_true,Í hk (by omega),e1,e2]
    have e3:0-g'.2.2.1-g'.2.2.2.1.1 = -(g'.2.2.1+g'.2.2.2.1.1):=by omega
    rw[e3];simp only[dn]
   |succ j =>
    have hjl:=(cX.1 h2).1
    have hdd:d≠g'.2.1:=by
     have hp1:=vY b g';rw[htl] at h2 hp1;rw[List.getElem?_cons_succ] at h2;have:=(dH.1 hp1).1 d (cZ h2);omega
    rw[Ó (by simpa[ieq] using hdd)]
    have hprev:(á b g')[j]?=some ((á b g')[j]?.getD 0):=by rw[cO (by omega)]; rfl
    have hd':d=(á b g')[j+1]?.getD 0:=by rw[h2]; rfl
    have hpn:=Ni h1 hprev;have d1:=h.day hgm (cZ hprev);have d2:=h.day hgm (cZ h2);have hk0:k=off b i+(j+1):=h3;obtain⟨e1,e2⟩:=adF (b:=b) (i:=i) (g:=g') hjl;rw[←hk0] at e1 e2
    have hkm:((k:Int)-1)=((off b i+j:Nat):Int):=by omega
    have lb:=kh h hgm (t:=d) d1.2.1;rw[Q7 (by omega) (by omega),hkm,É hpn,É hn,hdn]
    try dsimp only
    rw[show t7 ((b.1.1,b.1.2),b.2.1,b.2.2.1,b.2.2.2.1,b.2.2.2.2.1,b.2.2.2.2.2) g'.1 ((á b g')[j]?.getD 0) d=t7 b g'.1 ((á b g')[j]?.getD 0) d from rfl,amb h (vJ h.ids hgm) ⟨by omega,by omega⟩ (by omega),À,Í hk (by omega),Í hk (by omega),Ø (by simp only[cW,df,du]; omega),Am.iff_true,Ø (by simp only[cW,df,du]; omega),Am.iff_true,Í hk (by omega),e1,e2,←hd']
    have e3:(off b i:Int)+1+(j:Int)=(k:Int):=by omega
    rw[e3];simp only[dn]
  ·rw[Ù (by simp[ine,hsame]),Í hk (by omega)]
   have hout:k<off b i∨off b i+(á b g).length≤k:=by
    rcases dE k (off b i) with hlt|hge
    ·exact .inl hlt
    ·rcases dE k (off b i+(á b g).length) with hlt2|hge2
     ·have:=Ni hg (k:=k-off b i) (cO (by omega));rw[show off b i+(k-off b i)=k by omega,hn] at this;exact absurd (by rw[Option.some.inj this]) hsame
     ·exact .inr hge2
   obtain⟨e1,e2⟩:=abn hout hp;rw[e1,e2]
 ·try dsimp only
  unfold oU;rw[â];obtain⟨e1,e2⟩:=agt h hg;rw[e1,e2]
end
def abw {α β:Type} {e:Nat→α→Option β}:∀{l:List α} {k i:Nat} {a:α} {b:β},(∀j c,j<i→l[j]?=some c→e (k+j) c=none)→l[i]?=some a→e (k+i) a=some b→ī e k l=some b
 |[],_,_,_,_,_,ha,_=>by simp at ha
 |c::t,k,0,a,b,_,ha,hb=>by
  simp only[List.getElem?_cons_zero,Option.some.injEq] at ha;subst ha;unfold ī;rw[Nat.add_zero] at hb;rw[hb]
 |c::t,k,i+1,a,b,h,ha,hb=>by
  unfold ī;have h0:=h 0 c (by omega) rfl;rw[Nat.add_zero] at h0;rw[h0];refine abw (i:=i) (fun j d hj hd=>?_) (by simpa using ha) (by rw[←hb]; congr 1; omega);have:=h (j+1) d (by omega) (by simpa using hd);rw[←this];congr 1;omega
def D6 {ρ α β:Type} (l:List α) (e:Nat→α→Option β) (k0:β→Option ρ) (k1:Option ρ) {f:Int→(Int→Option ρ)→Option ρ}
 (h:∀(i:Nat) (a:α),i<l.length→l[i]?=some a→∀kn,f i kn=match e i a with|some b=>k0 b|none=>kn ((i:Int)+1))
 (hn:(∀j a,l[j]?=some a→e j a=none)→∀kn,f l.length kn=k1):Ï f 0=match ī e 0 l with|some b=>k0 b|none=>k1:=by
 refine ł (fun x:Int=>∃i:Nat,i≤l.length∧x=i∧∀j a,j<i→l[j]?=some a→e j a=none) (fun x=>l.length-x.toNat) ?_ ⟨0,by omega,rfl,fun j a hj=>by omega⟩;rintro x ⟨i,hi,rfl,hp⟩;rcases dE i l.length with hlt|hge
 ·have ha:l[i]?=some l[i]:=cO hlt
  cases hc:e i l[i] with
  |some b =>
   refine .inl fun kn=>?_;rw[h i _ hlt ha,hc,abw (k:=0) (b:=b) (fun j c hj hc=>by rw[dm]; exact hp j c hj hc) ha (by rw[dm]; exact hc)]
  |none =>
   refine .inr ⟨((i+1:Nat):Int),⟨i+1,hlt,rfl,fun j a hj hja=>?_⟩,by simp only[dt]; omega,fun kn=>?_⟩
   ·rcases dE j i with h1|h1
    ·exact hp j a h1 hja
    ·have:j=i:=by omega
     subst this;rw[ha] at hja;rw[←Option.some.inj hja]; exact hc
   ·rw[h i _ hlt ha,hc];simp
 ·have:i=l.length:=by omega
  subst this;refine .inl fun kn=>?_;have hall:∀j a,l[j]?=some a→e j a=none:=fun j a hja=>hp j a (cX.1 hja).1 hja;rw[hn hall kn,iE.2 fun j a hja=>by rw[dm]; exact hall j a hja]
def abC {e:Int}:afe e=none↔e=0:=by
 unfold afe
 split<;>simp_all
section
variable {b:Þ}
def UT (h:ė b):∀i,((b.2.1.take i).flatMap (ú b)).length≤1440∧(((b.2.1.take i).mapIdx (ø b)).flatten).length≤1440:=by
 have hG:=h.nG
 have gl:∀g∈b.2.1,(ú b g).length≤120∧∀i,(ø b i g).length≤120:=by
  intro g hg;have:=H6 h hg;constructor
  ·unfold ú;rw[List.length_append,ŭ _ _ (fun _=>rfl)];simp only[List.length_cons,List.length_nil]; omega
  ·intro i;unfold ø;rw[List.length_append,ŭ _ _ (fun _=>rfl)];simp only[List.length_cons,List.length_nil]; omega
 have key:∀i,i≤b.2.1.length→((b.2.1.take i).flatMap (ú b)).length≤i*120∧(((b.2.1.take i).mapIdx (ø b)).flatten).length≤i*120:=by
  intro i
  induction i with
  |zero=>intro _; simp
  |succ i ih =>
   intro hi;have ih:=ih (by omega);have hg:b.2.1[i]?=some b.2.1[i]:=cO hi;have h2:=gl _ (cZ hg);have h3:=h2.2 i;rw[iy _ hg,take_succ hg,eX,fE,cW,cW];simp only[dU,gG,dK,f5,gd];omega
 intro i;rcases dE b.2.1.length i with h1|h1
 ·rw[dV (by omega)];have:=key b.2.1.length (cQ _);rw[List.take_length] at this;omega
 ·have:=key i h1;omega
set_option maxHeartbeats 1000000 in
def anI (h:ė b):Ae b=some (æ b,Ŕ b):=by
 have hC:=h.nC;have hG:=h.nG;unfold Ae Wh;rw[Ry h.pre,À];refine ü b.2.1 (fun i=>((b.2.1.take i).flatMap (ú b),((b.2.1.take i).mapIdx (ø b)).flatten)) _ rfl (fun i g hi hg kn=>?_) (fun kn=>?_)
 ·try dsimp only
  unfold uO;have hls:=UT h i;rw[Ô hi,É hg];refine Eq.trans (ahv h hg (by omega) (by omega) _) ?_;rw[Í hi (by omega),iy _ hg,take_succ hg,List.flatMap_append,List.flatten_append];simp only[List.flatMap_cons,List.flatMap_nil,List.append_nil,List.flatten_cons,List.flatten_nil]
 ·try dsimp only
  unfold uO;rw[â,List.take_length];dsimp only;have hls:=UT h b.2.1.length;rw[List.take_length] at hls;refine ü b.2.2.2.2.1 (fun i=>(b.2.1.flatMap (ú b)++(b.2.2.2.2.1.take i).flatMap (ą b),(b.2.1.mapIdx (ø b)).flatten++((b.2.2.2.2.1.take i).mapIdx fun i _=>[((3:Int),(i:Int)),((3:Int),(i:Int))]).flatten)) _ (by simp) (fun i c hi hc kn=>?_) (fun kn=>?_)
  ·try dsimp only
   unfold uN;have hcm:=List.mem_of_getElem? hc;have hn:=(Ο c).1 (h.nums hcm);have ha:=ĭ hn.2.2.2.2.2.1;have hb:=ĭ hn.2.2.2.2.2.2;have hcl:=U8 (b:=b) i (by omega);have sb:=CH h hcm;rw[Ô hi,É hc,Kr (by omega) (by omega),À];rw[show jD ((b.1.1,b.1.2),b.2.1,b.2.2.1,b.2.2.2.1,b.2.2.2.2.1,b.2.2.2.2.2) (L5 c.2.2.1 c.2.2.2.1,c.2.1)=jD b (L5 c.2.2.1 c.2.2.2.1,c.2.1) from rfl,ab7 h.pre,À,Kr (by omega) (by omega),À];rw[show jD ((b.1.1,b.1.2),b.2.1,b.2.2.1,b.2.2.2.1,b.2.2.2.2.1,b.2.2.2.2.2) (L5 c.2.2.2.1 c.2.2.1,c.2.1)=jD b (L5 c.2.2.2.1 c.2.2.1,c.2.1) from rfl,ab7 h.pre,À];rw[show tZ ((b.1.1,b.1.2),b.2.1,b.2.2.1,b.2.2.2.1,b.2.2.2.2.1,b.2.2.2.2.2) c=tZ b c from rfl,ama h.size h.film (h.cmpIn hcm),À];rw[Ö (by omega) (by omega),Ø (by simp only[List.length_append,List.length_cons,List.length_nil]; omega),Am.iff_true,Ø (by simp only[List.length_append,List.length_cons,List.length_nil]; omega),Am.iff_true,Í hi (by omega)];rw[iy _ hc,take_succ hc,List.flatMap_append,List.flatten_append,aiQ h.pre,aiQ h.pre];simp only[List.flatMap_cons,List.flatMap_nil,List.append_nil,List.flatten_cons,List.flatten_nil,List.append_assoc];rw[Int.zero_sub];rfl
  ·try dsimp only
   unfold uN;rw[â,List.take_length];rfl
def j5 (b:Þ) (i:Nat) (c:Cmp):Int:=if !L6 c then 1 else if (b.2.2.2.2.1.take i).any (fun x=>x.1==c.1) then 6 else Bb b c
def U3 (hi:b.2.1.Pairwise fun a b=>a.1<b.1) (i:Nat) (c:Cmp):j5 b i c=om b (ir b) i c:=by
 unfold j5 om;rw[akT hi]
def amL (b:Þ):Int:=match (b.2.2.2.2.1.mapIdx (j5 b)).find? (fun e=>e != 0) with
 |some e=>e
 |none=>match (b.2.2.2.2.2.map (YH b)).find? (fun e=>e != 0) with
  |some e=>e
  |none=>if 59<(Î b).length then 2 else if 300<2*b.2.1.length+2*((Î b).length-b.2.1.length:Int)+2*b.2.2.2.2.1.length then 2 else 0
def ai2 {α:Type} {l:List α} {E:α→Int} (h:(l.map E).find? (fun e=>e != 0)=none):∀a∈l,E a=0:=by
 intro a ha;have:=eD.1 h (E a) (d8.2 ⟨a,ha,rfl⟩);simpa using this
def agv {α:Type} {l:List α} {E:Nat→α→Int} (h:(l.mapIdx E).find? (fun e=>e != 0)=none):∀i a,l[i]?=some a→E i a=0:=by
 intro i a ha;obtain⟨hi,rfl⟩:=cX.1 ha;have:=eD.1 h (E i l[i]) (gL.2 ⟨i,hi,rfl⟩);simpa using this
def Ya {i:Nat} {c:Cmp} (h:j5 b i c=0):L6 c=true∧(ê c.2.2.1 c.2.2.2.1).length≤1∧(ê c.2.2.2.1 c.2.2.1).length≤1:=by
 unfold j5 at h
 split at h
 ·omega
 rename_i h1
 split at h
 ·omega
 unfold Bb at h
 (repeat' split at h)<;>first|omega|exact⟨by simpa using h1,by omega,by omega⟩
set_option maxHeartbeats 4000000 in
def amK (hs:Ŷ b) (hfilm:0≤b.1.1∧b.1.1≤b.1.2∧b.1.2≤1000000) (nG:b.2.1.length≤12) (nU:b.2.2.1.length≤40) (nL:b.2.2.2.1.length≤12) (nC:b.2.2.2.2.1.length≤40) (nK:b.2.2.2.2.2.length≤10)
 (hg:∀g∈b.2.1,pH g=true) (hi:b.2.1.Pairwise fun a b=>a.1<b.1) (hu:∀u∈b.2.2.1,YH b u=0) (hl:∀i l,b.2.2.2.1[i]?=some l→Tz b i l=0) :
 Ï (fun(v41:Int) kk43=>jw b.1.1 b.1.2 b.2.1 b.2.2.1 b.2.2.2.1 b.2.2.2.2.1 b.2.2.2.2.2 v41 (fun u42=>kk43 u42) (fun z26=>some z26) (fun _=>Ï (fun(v38:Int) kk40=>jv b.1.1 b.1.2 b.2.1 b.2.2.1 b.2.2.2.1 b.2.2.2.2.1 b.2.2.2.2.2 v38 (fun u39=>kk40 u39) (fun z34=>some z34) (fun _=>Â (kB b) fun r36=>ifb (igt (Õ r36) (59:Int)) (some (2:Int)) (Â (Ae b) fun r37=>ifb (igt (Õ r37.1) (300:Int)) (some (2:Int)) (some (0:Int))))) (0:Int))) (0:Int)=some (amL b):=by
 unfold amL
 refine eY (D6 b.2.2.2.2.1 (fun i c=>afe (j5 b i c)) some (some (match (b.2.2.2.2.2.map (YH b)).find? (fun e=>e != 0) with
  |some e=>e
  |none=>if 59<(Î b).length then 2 else if 300<2*b.2.1.length+2*((Î b).length-b.2.1.length:Int)+2*b.2.2.2.2.1.length then 2 else 0)) (fun i c hci hc kn=>?_) (fun hcz kn=>?_)) ?_
 ·try dsimp only
  unfold jw;have hp:=hs.piles c (List.mem_of_getElem? hc);rw[Ô hci,É hc,aj6 (by omega) (by omega),À];unfold j5 afe
  cases L6 c with
  |false=>rfl
  |true =>
   rw[Ó (by rfl)]
   have hl9:(b.2.2.2.2.1.take i).length=i:=by rw[di]; omega
   refine eY (ķ (b.2.2.2.2.1.take i) (fun x=>x.1==c.1) (fun _=>some 6) (some 6) (if Bb b c=0 then kn ((i:Int)+1) else some (Bb b c)) (fun _=>rfl) (fun j a hj ha kn'=>?_) (fun kn'=>?_)) ?_
   ·try dsimp only
    unfold nY;rw[hl9] at hj
    have ha':b.2.2.2.2.1[j]?=some a:=by rwa [List.getElem?_take_of_lt hj] at ha
    rw[Ù (show ilt (j:Int) (i:Int)=true by simp[ilt]; omega),É ha',É hc,Í hj (by omega),ġ]
   ·try dsimp only
    unfold nY;rw[hl9,Ó (show ilt (i:Int) (i:Int)=false by simp[ilt])];dsimp only;rw[É hc,show jC ((b.1.1,b.1.2),b.2.1,b.2.2.1,b.2.2.2.1,b.2.2.2.2.1,b.2.2.2.2.2) c=jC b c from rfl,ab6 hs hp.1 hp.2,À,Í hci (by omega)]
    by_cases hz:Bb b c=0
    ·rw[Ó (by simp[ine,hz]),if_pos hz]
    ·rw[Ù (by simp[ine,hz]),if_neg hz]
   ·cases hany:(b.2.2.2.2.1.take i).any (fun x=>x.1==c.1) with
    |true=>simp
    |false =>
     by_cases hz:Bb b c=0
     ·simp[hz]
     ·simp[hz]
 ·try dsimp only
  unfold jw;rw[â];dsimp only;have hcz':∀i c,b.2.2.2.2.1[i]?=some c→j5 b i c=0:=fun i c hc=>abC.1 (hcz i c hc);refine Eq.trans (D6 b.2.2.2.2.2 (fun _ u=>afe (YH b u)) some (some (if 59<(Î b).length then 2 else if 300<2*b.2.1.length+2*((Î b).length-b.2.1.length:Int)+2*b.2.2.2.2.1.length then 2 else 0)) (fun i a hia ha kn'=>?_) (fun hlz kn'=>?_)) ?_
  ·try dsimp only
   unfold jv;rw[Ô hia,É ha,Yz,À];unfold YH afe
   cases Ct a.2 with
   |false=>rfl
   |true =>
    rw[Ó (by rfl),É ha,É ha,Ik (b:=((b.1.1,b.1.2),b.2.1,b.2.2.1,b.2.2.2.1,b.2.2.2.2.1,b.2.2.2.2.2)) (by simp only; omega),À,Í hia (by omega)];have e:ξ ((b.1.1,b.1.2),b.2.1,b.2.2.1,b.2.2.2.1,b.2.2.2.2.1,b.2.2.2.2.2) a.1 a.2=ξ b a.1 a.2:=rfl;rw[e]
    by_cases hz:ξ b a.1 a.2=0
    ·rw[Ó (by simp[ine,hz])]; simp[hz]
    ·rw[Ù (by simp[ine,hz])]; simp[hz]
  ·try dsimp only
   unfold jv;rw[â];dsimp only
   have hlz':∀u∈b.2.2.2.2.2,YH b u=0:=fun u hum=>by
    obtain⟨j,hj,rfl⟩:=dj.1 hum;exact abC.1 (hlz j _ (cO hj))
   have pre:Pre b:=⟨hs,hg,fun c hc=>by
    obtain⟨j,hj,rfl⟩:=dj.1 hc;have q:=Ya (hcz' j _ (cO hj))
    exact⟨ZG q.1,q.2⟩,fun n hn=>by
    have:=hlz' n hn;unfold YH at this
    split at this
    ·omega
    ·rename_i hd; simpa using hd⟩
   rw[Ry pre,À,å]
   by_cases h59:59<(Î b).length
   ·rw[Ù (by simp[igt]; omega),if_pos h59]
   ·rw[Ó (by simp[igt]; omega),if_neg h59];have good:ė b:=⟨hfilm,nG,nU,nL,nC,nK,hg,hi,fun u hum=>by rw[←aep hi]; exact hu u hum,fun i l hil=>by rw[←aiD hi]; exact hl i l hil,fun i c hic=>by rw[←U3 hi]; exact hcz' i c hic,fun u hum=>by rw[←aep hi]; exact hlz' u hum,by omega,by omega⟩;have hll:=Qw good;rw[anI good,À,å];dsimp only;rw[hll,Ó (by simp[igt]; omega),if_neg (by omega)]
  ·rw[QN]
   cases(b.2.2.2.2.2.map (YH b)).find? (fun e=>e != 0)<;>rfl
 ·rw[QM (j5 b)]
  cases(b.2.2.2.2.1.mapIdx (j5 b)).find? (fun e=>e != 0)<;>rfl
end
def X0 {l m:List Int}:(l++m).find? (fun e=>e != 0)=match l.find? (fun e=>e != 0) with|some e=>some e|none=>m.find? (fun e=>e != 0):=by
 rw[List.find?_append]
 cases l.find? (fun e=>e != 0)<;>rfl
set_option maxHeartbeats 4000000 in
def akf {b:Þ} (hs:Ŷ b):Ū b=some (ã b):=by
 unfold Ū I2 ã;rw[wd,À]
 cases hsp:jJ b.1 0 1000000 with
 |false=>rfl
 |true =>
 have hfilm:0≤b.1.1∧b.1.1≤b.1.2∧b.1.2≤1000000:=by
  simp only[jJ,cR,decide_eq_true_eq] at hsp;exact hsp
 rw[Ó (show(!true)=false from rfl),if_neg (by simp)];rw[å b.2.1,å b.2.2.1,å b.2.2.2.1,å b.2.2.2.2.1,å b.2.2.2.2.2]
 by_cases c0:12<b.2.1.length
 ·rw[Ù (by simp[igt]; omega),if_pos c0]
 rw[Ó (by simp[igt]; omega),if_neg c0]
 by_cases c1:40<b.2.2.1.length
 ·rw[Ù (by simp[igt]; omega),if_pos c1]
 rw[Ó (by simp[igt]; omega),if_neg c1]
 by_cases c2:12<b.2.2.2.1.length
 ·rw[Ù (by simp[igt]; omega),if_pos c2]
 rw[Ó (by simp[igt]; omega),if_neg c2]
 by_cases c3:40<b.2.2.2.2.1.length
 ·rw[Ù (by simp[igt]; omega),if_pos c3]
 rw[Ó (by simp[igt]; omega),if_neg c3]
 by_cases c4:10<b.2.2.2.2.2.length
 ·rw[Ù (by simp[igt]; omega),if_pos c4]
 rw[Ó (by simp[igt]; omega),if_neg c4]
 refine eY (D6 b.2.1 (nM b.2.1) some (some (match (xm b (ir b)).find? (fun e=>e != 0) with
  |some e=>e
  |none=>if 59<(Î b).length then 2 else if 300<2*b.2.1.length+2*((Î b).length-b.2.1.length:Int)+2*b.2.2.2.2.1.length then 2 else 0)) (fun i g hi hg kn=>?_) (fun hz kn=>?_)) ?_
 ·try dsimp only
  unfold nZ;rw[Ô hi,É hg,aj8,À];unfold nM
  cases pH g with
  |false=>rfl
  |true =>
   rw[Ó (by rfl)];rcases fw i with h0|h0
   ·subst h0
    have:igt ((0:Nat):Int) 0=false:=by simp[igt]
    rw[Ó this,Í hi (by omega)];simp[Eh]
   ·obtain⟨q,hq⟩:=Ez hi h0
    have h1:igt (i:Int) 0=true:=by simp[igt]; omega
    rw[Ù h1,É hg,Q7 h0 (by omega),HA h0 hq];simp only[Eh,h0,decide_true,Bool.true_and,hq,Option.any_some];unfold ile
    cases h2:decide (g.1≤q.1) with
    |true=>simp
    |false=>rw[é,Í hi (by omega)]; simp
 ·try dsimp only
  unfold nZ;rw[â];dsimp only
  have hg0:jn b=0:=by
   unfold jn;rw[iE.2 fun j a ha=>by rw[Nat.zero_add]; exact hz j a ha];rfl
  obtain⟨hg,hi⟩:=(vI b).1 hg0;have eu:b.2.2.1.map (YH b)=b.2.2.1.map fun u=>afQ (ir b) u.1 u.2:=List.map_congr_left fun u _=>aep hi u;have el:b.2.2.2.1.mapIdx (Tz b)=b.2.2.2.1.mapIdx fun i l=>TA b (ir b) i l:=List.mapIdx_eq_mapIdx_iff.2 fun i hl=>aiD hi i _;have ec:b.2.2.2.2.1.mapIdx (j5 b)=b.2.2.2.2.1.mapIdx fun i c=>om b (ir b) i c:=List.mapIdx_eq_mapIdx_iff.2 fun i hc=>U3 hi i _;have ek:b.2.2.2.2.2.map (YH b)=b.2.2.2.2.2.map fun u=>afQ (ir b) u.1 u.2:=List.map_congr_left fun u _=>aep hi u;unfold xm;rw[←eu,←el,←ec,←ek,X0,X0,X0,al5 hs,À]
  cases hue:(b.2.2.1.map (YH b)).find? (fun e=>e != 0) with
  |some e =>
   have he:e≠0:=by have:=fW hue; simpa using this
   simp only[fH];rw[Ó (by simpa[ieq] using he),Ù (by simpa[ine] using he)]
  |none =>
   simp only[Option.getD_none];rw[Ù (by rfl),aj7 hs,À]
   cases hle:(b.2.2.2.1.mapIdx (Tz b)).find? (fun e=>e != 0) with
   |some e =>
    have he:e≠0:=by have:=fW hle; simpa using this
    simp only[fH];rw[Ù (by simpa[ine] using he)]
   |none =>
    simp only[Option.getD_none];rw[Ó (by rfl)];refine Eq.trans (amK hs hfilm (by omega) (by omega) (by omega) (by omega) (by omega) hg hi (ai2 hue) (agv hle)) ?_;unfold amL
    cases(b.2.2.2.2.1.mapIdx (j5 b)).find? (fun e=>e != 0)<;>rfl
 ·unfold jn
  cases hf:ī (nM b.2.1) 0 b.2.1 with
  |none =>
   simp
   cases(xm b (ir b)).find? (fun e=>e != 0)<;>rfl
  |some e =>
   have he:jn b=e:=by unfold jn; rw[hf]; rfl
   have hne:e≠0:=by
    intro h0;rw[h0] at he;obtain⟨h1,h2⟩:=(vI b).1 he
    have h3:∀j a,b.2.1[j]?=some a→nM b.2.1 j a=none:=by
     intro j a ha;have h4:=(Yp (fun g:í=>g.1) b.2.1).2 h2 j a ha;simp[nM,h1 a (cZ ha),h4]
    rw[iE.2 fun j a ha=>by rw[dm]; exact h3 j a ha] at hf;cases hf
   simp[hne]
def ahc (s b:Þ):Bool×Int:=if ã s≠0 then(false,ã s) else if ã b≠0 then(false,ã b) else(IB s b,0)
def akj {s b:Þ} (hs:In s) (hb:In b):Ĺ s b=some (ahc s b):=by
 unfold Ĺ WZ ahc;rw[ź hs.size hs.num,À]
 by_cases h1:ã s=0
 case neg=>rw[Ù (bne_iff_ne.2 h1),if_pos h1]
 rw[Ó (by rw[h1]; rfl),if_neg (by simp[h1]),ź hb.size hb.num,À]
 by_cases h2:ã b=0
 case neg=>rw[Ù (bne_iff_ne.2 h2),if_pos h2]
 rw[Ó (by rw[h2]; rfl),if_neg (by simp[h2]),part_ok hs.size hb.size,À]
end Go.Proofs.ZzM
end
