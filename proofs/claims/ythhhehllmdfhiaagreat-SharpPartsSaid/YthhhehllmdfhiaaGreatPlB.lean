/- lemmas -/
import Derived.Test.YthhhehllmdfhiaaGreatPlA
import Derived.Test.YthhhehllmdfhiaaGreatMdTA
set_option linter.all false
set_option linter.unusedSectionVars false
set_option linter.unusedVariables false
set_option linter.unusedSimpArgs false
noncomputable section
namespace Go.Proofs.ZzM
open Go Go.Am
structure Room (B:á):Prop where
 good:ğ B
 op:œ (Ú B) ((Ï B).length+1)=true
 num:∀g∈B.2.1,I64 g.2.2.2.2.1.1
theorem agx {b:á} (hI:In b) {ns:List (Int×Int)} (e:(Ĺ b ns).2=0):Room (Ĺ b ns).1∧(Ĺ b ns).1=(afb b ns).1∧(afb b ns).2=0∧ğ b:=by
 unfold Ĺ at e ⊢
 by_cases hc:à b=0
 ·rw[if_neg (by simp[hc])] at e ⊢
  by_cases hr:(afb b ns).2=0
  ·rw[if_neg (by simp[hr])] at e ⊢
   cases ho:œ (Ú (afb b ns).1) ((Ï (afb b ns).1).length+1) with
   | true =>
     rw[if_pos rfl]
     exact⟨⟨aB3 ((ð b).1 hc) hr,ho,by rw[ar7 hr]; exact hI.num⟩,rfl,hr,(ð b).1 hc⟩
   |false=>rw[ho] at e; simp at e
  ·rw[if_pos hr] at e; exact absurd e hr
 ·rw[if_pos hc] at e; exact absurd e hc
theorem υ (B:á) (n:Int×Int):0≤ak7 B n.1 n.2∧ak7 B n.1 n.2<((Ï B).length+1:Nat):=by
 unfold ak7
 cases h:adJ (Ï B) n.1 n.2 with
 |none=>dsimp only; omega
 |some j=>have:=(afV h).1; dsimp only; omega
theorem aFL {B:á} (h:ğ B) (hn:∀g∈B.2.1,I64 g.2.2.2.2.1.1) (s:Sys) (n:Int×Int):Λ (B,s) n=some (ak7 B n.1 n.2):=by
 unfold Λ asJ
 rw[show Ř (B,s).1 n=Ř B n from rfl,aFW (h.inn hn),À,atk h]
 split
 ·rename_i e; rw[e]
 ·rfl
theorem aQA {B:á} {L:List Lk} {N:Nat} (h:adx L N) {to from':Int} (h1:0≤to∧to<N) (h2:0≤from'∧from'<N):Ą (B,(N:Int),L) to from'=some (adb L N from' to).1:=by
 unfold Ą ajX
 rw[show(B,(N:Int),L).2=((N:Int),L) from rfl,aBO h h2 h1,À]
def aIa (B:á):Sys:=(((Ï B).length:Int)+1,Ú B)
def aZO (B:á) (s t:Int):Int:=dst (Ú B) ((Ï B).length+1) s t
def ivR (B:á) (n:Int×Int):Int×Int:=(-(aZO B (ak7 B n.1 n.2) 0),aZO B 0 (ak7 B n.1 n.2))
theorem aBS (B:á):aIa B=((((Ï B).length+1:Nat):Int),Ú B):=by unfold aIa; push_cast; rfl
theorem adL (B:á):0≤(0:Int)∧(0:Int)<((Ï B).length+1:Nat):=by omega
section
variable {B:á} (h:Room B)
include h
theorem ayB {s t:Int} (hs:0≤s∧s<((Ï B).length+1:Nat)) (ht:0≤t∧t<((Ï B).length+1:Nat)) : -9007199254740992≤aZO B s t∧aZO B s t≤9007199254740992 :=
 aTY h.good.sys h.good.tied h.op hs ht
theorem aqh {to from':Int} (h1:0≤to∧to<((Ï B).length+1:Nat)) (h2:0≤from'∧from'<((Ï B).length+1:Nat)):Ą (B,aIa B) to from'=some (aZO B from' to):=by
 rw[aBS,aQA h.good.sys h1 h2,aqk h.good.sys h.good.tied h2 h1,if_pos h.op]
 rfl
theorem aI9 (n:Int×Int):Κ (B,aIa B) n=some (-(aZO B (ak7 B n.1 n.2) 0)):=by
 unfold Κ ajW
 have hb:=ayB h (υ B n) (adL B)
 rw[aFL h.good h.num,À,aqh h (adL B) (υ B n),À,Û (by omega) (by omega)]
 congr 1
 omega
theorem awb (n:Int×Int):ψ (B,aIa B) n=some (aZO B 0 (ak7 B n.1 n.2)):=by
 unfold ψ af5
 rw[aFL h.good h.num,À,aqh h (υ B n) (adL B),À]
theorem amm (n:Int×Int):ţ (B,aIa B) n=some (ivR B n):=by
 unfold ţ af4
 rw[aI9 h,À,awb h,À]
 rfl
end
def awK (b:á) (n:Int×Int):(Int×Int)×Int:=if (Ĺ b [n]).2≠0 then((0,0),(Ĺ b [n]).2) else(ivR (Ĺ b [n]).1 n,0)
theorem aFV {b:á} (hI:In b) (n:Int×Int):agT b n=some (awK b n):=by
 unfold agT aov awK
 refine(alu hI (ns:=[n]) (by simp) (fun e=>some (((0,0):Int×Int),e)) (fun e he=>by rw[ī (by simp[ine,he])]) (fun z he=>by rw[ī (by simp[ine,he])]) (fun _ _ _=>rfl)).trans ?_
 split
 ·rfl
 ·rename_i e
  have hr:=(agx hI (by simpa using e)).1
  dsimp only
  rw[ao4,show((((Ï (Ĺ b [n]).1).length:Int)+1,Ú (Ĺ b [n]).1):Sys)=aIa (Ĺ b [n]).1 from rfl,amm hr,À]
theorem aVI {ρ:Type}:@aj6 ρ=@Č ρ:=rfl
theorem aZz {ρ:Type}:@aou ρ=@Č ρ:=rfl
def btR (B:á) (m n:Int×Int):Int×Int:=(-(aZO B (ak7 B m.1 m.2) (ak7 B n.1 n.2)),aZO B (ak7 B n.1 n.2) (ak7 B m.1 m.2))
def aNf (b:á) (m n:Int×Int):(Int×Int)×Int:=if (Ĺ b [m,n]).2≠0 then((0,0),(Ĺ b [m,n]).2) else(btR (Ĺ b [m,n]).1 m n,0)
theorem aVT {b:á} (hI:In b) (m n:Int×Int):amA b m n=some (aNf b m n):=by
 unfold amA asR aNf
 rw[aVI]
 refine(alu hI (ns:=[m,n]) (by simp) (fun e=>some (((0,0):Int×Int),e)) (fun e he=>by rw[ī (by simp[ine,he])]) (fun z he=>by rw[ī (by simp[ine,he])]) (fun _ _ _=>rfl)).trans ?_
 split
 ·rfl
 ·rename_i e
  have hr:=(agx hI (by simpa using e)).1
  dsimp only
  generalize (Ĺ b [m,n]).1=B at hr ⊢
  have hb:=ayB hr (υ B m) (υ B n)
  rw[ao4,show((((Ï B).length:Int)+1,Ú B):Sys)=aIa B from rfl,aFL hr.good hr.num,À,aFL hr.good hr.num,À,aqh hr (υ B n) (υ B m),À,
   Û (by omega) (by omega),aqh hr (υ B m) (υ B n),À]
  unfold btR
  rw[Int.zero_sub]
def aiM (s l:Int×Int):Int:=if l.1≤s.1∧s.2≤l.2 then 1 else if s.2<l.1∨l.2<s.1 then 2 else 3
theorem aH7 (s l:Int×Int):aiz s l=some (aiM s l):=by
 unfold aiz asH aiM
 simp only[ď,ile,ilt,decide_eq_true_eq]
 by_cases h1:l.1≤s.1<;>by_cases h2:s.2≤l.2<;>by_cases h3:s.2<l.1<;>by_cases h4:l.2<s.1<;>simp[h1,h2,h3,h4]
def aYQ (b:á) (n l:Int×Int):Int×Int:=if (Ĺ b [n]).2≠0 then(0,(Ĺ b [n]).2) else if l.2<l.1 then(0,1) else(aiM (ivR (Ĺ b [n]).1 n) l,0)
theorem a0w {b:á} (hI:In b) (n l:Int×Int):awn b n l=some (aYQ b n l):=by
 unfold awn aDN aYQ
 rw[aZz]
 refine(alu hI (ns:=[n]) (by simp) (fun e=>some ((0:Int),e)) (fun e he=>by rw[Õ (by simp[ine,he])]) (fun z he=>by rw[Õ (by simp[ine,he])]) (fun _ _ _=>rfl)).trans ?_
 split
 ·rfl
 ·rename_i e
  have hr:=(agx hI (by simpa using e)).1
  dsimp only
  by_cases hl:l.2<l.1
  ·rw[Õ (by simp[igt,hl]),if_pos hl]
  ·rw[Ò (by simp[igt]; omega),if_neg hl,ao4,show((((Ï (Ĺ b [n]).1).length:Int)+1,Ú (Ĺ b [n]).1):Sys)=aIa (Ĺ b [n]).1 from rfl,amm hr,À,aH7,À]
end Go.Proofs.ZzM
end
noncomputable section
namespace Go.Proofs.ZzM
open Go Go.Am
def aFY (x y:List Int):List Int×List Int×Int:=if !afI x then([],[],1) else if !afI y then([],[],1) else(æ x y,æ y x,0)
theorem aQQ {x y:List Int} (hx:x.length≤100000) (hy:y.length≤100000):aln x y=some (aFY x y):=by
 unfold aln ayh aFY
 rw[av3 (by omega),À]
 cases afI x with
 |false=>rfl
 | true =>
   rw[av3 (by omega),À]
   cases afI y with
   |false=>rfl
   | true =>
     rw[akd (by omega) (by omega),À,akd (by omega) (by omega),À]
     rfl
end Go.Proofs.ZzM
end
noncomputable section
namespace Go.Proofs.ZzM
open Go Go.Am
theorem aP8 (ls:List (List Int)) (i:Nat):(ls.take i).flatten.length≤ls.flatten.length:=by
 conv=>rhs; rw[←List.take_append_drop i ls,List.flatten_append,List.length_append]
 omega
theorem ahY {ls:List (List Int)} (hl:ls.length≤1000000) (hf:ls.flatten.length≤1000000):é ls=some ls.flatten:=by
 have hk:∀n:Nat,n≤4000000→∀(f:Int→Option (List Int)),ck (n:Int) f=f n:=fun n h f=>Û (by omega) (by omega) f
 have second:Ñ (fun(v9:(Val (.pair tI (.slice tI)))) kk12=>í ls (Ü ls) v9.1 v9.2 (fun u10 u11=>kk12 (u10,u11)) (fun z8=>some z8)) ((0:Int),([]:List Int))=some ls.flatten:=by
  refine ù ls (fun i=>(ls.take i).flatten) (some ls.flatten) (f:=fun(v9:(Val (.pair tI (.slice tI)))) kk12=>í ls (Ü ls) v9.1 v9.2 (fun u10 u11=>kk12 (u10,u11)) (fun z8=>some z8)) rfl (fun i x hi hx kn=>?_) (fun kn=>?_)
  ·try dsimp only
   unfold í
   have h1:=aP8 ls (i+1)
   rw[take_succ hx,List.flatten_append,List.length_append] at h1
   simp only[List.flatten_cons,List.flatten_nil,List.append_nil] at h1
   rw[Ô hi,É hx,Ì hi (by omega),take_succ hx,List.flatten_append]
   have:ì ((List.take i ls).flatten.length+x.length)=true:=Ù (by omega)
   rw[ī this]
   simp
  ·try dsimp only
   unfold í
   rw[Ý]
   simp
 unfold é adP
 refine ő (fun x:Int×Int=>∃i:Nat,i≤ls.length∧x=(((ls.take i).flatten.length:Int),(i:Int))) (fun x=>ls.length-x.2.toNat) ?_ ⟨0,by omega,rfl⟩
 rintro x ⟨i,hi,rfl⟩
 rcases Nat.lt_or_ge i ls.length with h2|h2
 ·refine .inr ⟨(((ls.take (i+1)).flatten.length:Int),(i:Int)+1),⟨i+1,h2,by simp⟩,by simp; omega,fun kn=>?_⟩
  obtain⟨x,hx⟩:∃x,ls[i]?=some x:=⟨_,List.getElem?_eq_getElem h2⟩
  have h1:=aP8 ls (i+1)
  rw[take_succ hx,List.flatten_append,List.length_append] at h1
  simp only[List.flatten_cons,List.flatten_nil,List.append_nil] at h1
  try dsimp only
  unfold Ī
  rw[Ô h2,É hx,â]
  have e1:(((List.take i ls).flatten.length:Int)+(x.length:Int))=((List.take i ls).flatten.length+x.length:Nat):=by omega
  rw[e1,hk _ (by omega)]
  have:ilt ((((List.take i ls).flatten.length+x.length:Nat)):Int) 0=false:=by simp[ilt]; omega
  rw[Ò this,Ì h2 (by omega),take_succ hx]
  simp
 ·refine .inl fun kn=>?_
  obtain rfl:i=ls.length:=by omega
  try dsimp only
  unfold Ī
  rw[Ý,List.take_length]
  have e2:ilt ((ls.flatten.length:Nat):Int) 0=false:=decide_eq_false (by omega)
  dsimp only
  rw[Ò e2,Int.sub_zero,hk _ (by omega)]
  rcases Nat.eq_zero_or_pos ls.flatten.length with h0|h0
  ·have:igt (ls.flatten.length:Int) 0=false:=decide_eq_false (by omega)
   rw[Ò this]
   exact second
  ·have:igt (ls.flatten.length:Int) 0=true:=decide_eq_true (by omega)
   rw[Õ this]
   have:((ilt (0:Int) (ls.flatten.length:Int))&&(ì (Int.toNat (ls.flatten.length:Int))))=true:=by
    rw[Int.toNat_natCast,Ù (by omega),Bool.and_true]
    exact decide_eq_true (by omega)
   rw[ī this]
   have:ile 0 (Ĩ (List.replicate (Int.toNat (ls.flatten.length:Int)) (0:Int)))=true:=decide_eq_true (Int.natCast_nonneg _)
   rw[ī this]
   exact second
def onP (day:Int) (ids:List Int):List (Int×Int):=ids.map fun id=>(id,day)
theorem aWe {day:Int} {ls:List (List Int)} (hl:ls.length≤1000000) (hf:ls.flatten.length≤1000000):awl day ls=some (onP day ls.flatten):=by
 unfold awl aDz
 rw[ahY hl hf,À]
 refine ù ls.flatten (fun i=>onP day (ls.flatten.take i)) _ rfl (fun i x hi hx kn=>?_) (fun kn=>?_)
 ·try dsimp only
  unfold ajj
  rw[Ô hi,É hx,Ì hi (by omega),take_succ hx]
  have:ì (List.length (onP day (ls.flatten.take i))+List.length ([(x,day)]))=true:=Ù (by simp[onP]; omega)
  rw[ī this]
  simp[onP]
 ·try dsimp only
  unfold ajj
  rw[Ý,List.take_length]
theorem aY6 {l:List Int} (hl:l.length≤100000) (m:Int):aBE l m=some (afI l&&decide ((l.length:Int)≤m)):=by
 unfold aBE aK7
 rw[aQQ hl (by simp),À]
 have e0:afI []=true:=by decide
 unfold aFY
 rw[e0,â]
 cases afI l<;>rfl
theorem a02 (n:Int):awm n=some (awN n):=by
 unfold awm aDE awN inP
 rw[ď]
 by_cases h:0≤n
 ·rw[if_pos (by simpa[ige] using h)]; simp[h]
 ·rw[if_neg (by simpa[ige] using h)]; simp[h]
theorem aZD {ρ α:Type} (l:List α) (i:Int) (f:α→Option ρ):ô ((ile (0:Int) i)&&(ilt i (Ĩ l))) (Ψ l (Int.toNat i) f)=ü l i f:=by
 unfold ü
 by_cases h0:0≤i
 ·by_cases h1:i<l.length
  ·have e:((ile (0:Int) i)&&(ilt i (Ĩ l)))=true:=by simp[ile,ilt,h0,h1]
   rw[ī e]
   simp only[h0,decide_true]
   unfold Ψ
   rfl
  ·have e:((ile (0:Int) i)&&(ilt i (Ĩ l)))=false:=by simp[ile,ilt,h1]
   rw[e]
   simp only[h0,decide_true]
   rw[List.getElem?_eq_none (by omega)]
   rfl
 ·have e:((ile (0:Int) i)&&(ilt i (Ĩ l)))=false:=by simp[ile,ilt,h0]
  rw[e]
  simp only[h0,decide_false]
  rfl
theorem a1b {ρ:Type} (ns:List (Int×Int)) (n:Int):@alU ρ ns n=@Č ρ n ns:=by
 funext v0 v1 v2 v3 v4 v5 v6 v7 kn k0 k1
 unfold alU Č
 rw[aZD]
def aTa (B:á) (ns:List (Int×Int)) (s:Int×Int):Int×Int:=ns.foldl (fun s n=>(s.1+(ivR B n).1,s.2+(ivR B n).2)) s
def pileR (B:á) (f:Int×Int) (ns:List (Int×Int)):Int×Int:=aTa B ns (((ns.length:Int)-1)*f.1,((ns.length:Int)-1)*f.2)
def a1T (b:á) (day:Int) (ids:List Int):(Int×Int)×Int :=
 if à b≠0 then((0,0),à b) else if ids.length=0∨afI ids=false∨awN day=false then((0,0),1) else
 if (Ĺ b (onP day ids)).2≠0 then((0,0),(Ĺ b (onP day ids)).2) else(pileR (Ĺ b (onP day ids)).1 b.1 (onP day ids),0)
theorem aQY (B:á) (x y:List (Int×Int)) (s:Int×Int):aTa B (x++y) s=aTa B y (aTa B x s):=by unfold aTa; rw[List.foldl_append]
theorem aV9 {B:á} (h:Room B):∀(ns:List (Int×Int)) (s:Int×Int) (m:Int),-m≤s.1∧s.1≤m→-m≤s.2∧s.2≤m →
 (-(m+ns.length*9007199254740992)≤(aTa B ns s).1∧(aTa B ns s).1≤m+ns.length*9007199254740992)∧(-(m+ns.length*9007199254740992)≤(aTa B ns s).2∧(aTa B ns s).2≤m+ns.length*9007199254740992)
 |[],s,m,h1,h2=>by unfold aTa; simp; omega
 | n :: t, s, m, h1, h2 => by
   have b1:=ayB h (υ B n) (adL B)
   have b2:=ayB h (adL B) (υ B n)
   have:=aV9 h t (s.1+(ivR B n).1,s.2+(ivR B n).2) (m+9007199254740992) (by unfold ivR; dsimp only; omega) (by unfold ivR; dsimp only; omega)
   show(-(m+((n::t).length:Nat)*9007199254740992)≤(aTa B t _).1∧_)∧_
   unfold aTa at this ⊢
   simp only[List.foldl_cons,List.length_cons]
   push_cast
   omega
theorem a1S {b:á} (hI:In b) (day:Int) {ids:List Int} (hl:ids.length≤1000):aBF b day ids=some (a1T b day ids):=by
 unfold aBF aLx a1T
 rw[η hI.size hI.num,À,aY6 (by omega),À,a02,À,â]
 by_cases hc:à b=0
 ·rw[Ò (by simp[ine,hc]),if_neg (show ¬(à b≠0) from fun h=>h hc)]
  by_cases h0:ids.length=0
  ·rw[Õ (by simp[ieq,h0]),if_pos (.inl h0)]
  ·rw[Ò (beq_eq_false_iff_ne.2 (by omega))]
   by_cases h1:afI ids=true
   ·have hp:=(atz ids).1 h1
    have e1:(afI ids&&decide ((ids.length:Int)≤6))=true:=by rw[h1]; simp; omega
    rw[e1,Ò (by rfl)]
    by_cases h2:awN day=true
    ·have hg:=(ð b).1 hc
     rw[Ò (by rw[h2]; rfl),if_neg (by simp[h0,h1,h2]),aWe (by simp) (by simp; omega),À]
     have hlen:(onP day ids).length=ids.length:=by simp[onP]
     rw[show([ids]:List (List Int)).flatten=ids by simp,a1b,←η hI.size hI.num]
     refine(alu hI (ns:=onP day ids) (by omega) (fun e=>some (((0,0):Int×Int),e)) (fun e he=>by rw[Õ (by simp[ine,he])]) (fun z he=>by rw[Õ (by simp[ine,he])]) (fun _ _ _=>rfl)).trans ?_
     split
     ·rfl
     ·rename_i e
      have hr:=(agx hI (by simpa using e)).1
      have hf:=hg.film
      dsimp only
      generalize (Ĺ b (onP day ids)).1=B at hr ⊢
      have hm:∀x:Int,0≤x→x≤1000000→0≤((ids.length:Int)-1)*x∧((ids.length:Int)-1)*x≤10000000:=by
       intro x h0 h1
       have:((ids.length:Int)-1)*x≤5*1000000:=Int.mul_le_mul (by omega) h1 h0 (by omega)
       exact⟨Int.mul_nonneg (by omega) h0,by omega⟩
      have m1:=hm b.1.1 (by omega) (by omega)
      have m2:=hm b.1.2 (by omega) (by omega)
      rw[Û (by omega) (by omega),Û (by omega) (by omega),Û (by omega) (by omega),ao4,show((((Ï B).length:Int)+1,Ú B):Sys)=aIa B from rfl]
      unfold pileR
      rw[hlen]
      refine ù (onP day ids) (fun i=>aTa B ((onP day ids).take i) (((ids.length:Int)-1)*b.1.1,((ids.length:Int)-1)*b.1.2)) _ rfl (fun i n hi hn kn=>?_) (fun kn=>?_)
      ·try dsimp only
       unfold alT
       have b1:=ayB hr (υ B n) (adL B)
       have b2:=ayB hr (adL B) (υ B n)
       have bs:=aV9 hr ((onP day ids).take i) (((ids.length:Int)-1)*b.1.1,((ids.length:Int)-1)*b.1.2) 10000000 (by dsimp only; omega) (by dsimp only; omega)
       have bl:(((onP day ids).take i).length:Int)≤6:=by rw[List.length_take]; omega
       rw[Ô hi,É hn,amm hr,À,take_succ hn,aQY]
       generalize aTa B ((onP day ids).take i) (((ids.length:Int)-1)*b.1.1,((ids.length:Int)-1)*b.1.2)=s at bs ⊢
       unfold ivR
       dsimp only
       rw[Û (by omega) (by omega),Û (by omega) (by omega),Ì hi (by omega)]
       rfl
      ·try dsimp only
       unfold alT
       rw[Ý,List.take_length]
    ·have h2':awN day=false:=by simpa using h2
     rw[h2',Õ (by rfl),if_pos (.inr (.inr rfl))]
   ·have h1':afI ids=false:=by simpa using h1
    rw[h1',Õ (by rfl),if_pos (.inr (.inl rfl))]
 ·rw[Õ (by simp[ine,hc]),if_pos hc]
theorem aiu {α:Type} (p:α→Bool) (l:List α) (i:Nat):((l.take i).filter p).length≤l.length:=by
 have h1:=List.length_filter_le p (l.take i)
 rw[List.length_take] at h1
 omega
end Go.Proofs.ZzM
end
noncomputable section
namespace Go.Proofs.ZzM
open Go Go.Am
theorem aIG (x y:Int) (g:Bool):∀m:List (Int×Bool),akz (k:=tI) (v:=.bool) x (aBs (k:=tI) (v:=.bool) y g m)=if x=y then some g else akz (k:=tI) (v:=.bool) x m
 | [] => by
   unfold aBs akz ae0 akz
   by_cases h:x=y<;>simp[h]
 | e :: m => by
   unfold aBs
   by_cases h:y=e.1
   ·have:ae0 tI y e.1=true:=by simp[ae0,h]
    rw[this]
    try dsimp only
    unfold akz ae0
    by_cases h2:x=y
    ·simp[h2]
    ·have:¬x=e.1:=fun h3=>h2 (h3.trans h.symm)
     simp[h2,this]
   ·have:ae0 tI y e.1=false:=by simp[ae0,h]
    rw[this]
    try dsimp only
    have ih:=aIG x y g m
    unfold akz
    by_cases h2:x=e.1
    ·have:ae0 tI x e.1=true:=by simp[ae0,h2]
     rw[this]
     have:¬x=y:=fun h3=>h (h3.symm.trans h2)
     simp[this]
    ·have:ae0 tI x e.1=false:=by simp[ae0,h2]
     rw[this]
     exact ih
def aF2 (l:List Int):List (Int×Bool):=l.foldl (fun m x=>aBs (k:=tI) (v:=.bool) x true m) []
theorem anz (l:List Int) (x:Int):aF2 (l++[x])=aBs (k:=tI) (v:=.bool) x true (aF2 l):=by unfold aF2; rw[List.foldl_append]; rfl
theorem aOn (x:Int):∀(l:List Int) (m:List (Int×Bool)),akz (k:=tI) (v:=.bool) x (l.foldl (fun m x=>aBs (k:=tI) (v:=.bool) x true m) m)=if l.contains x then some true else akz (k:=tI) (v:=.bool) x m
 |[],m=>by simp
 | y :: l, m => by
   rw[List.foldl_cons,aOn x l,aIG]
   by_cases h:x=y
   ·subst h; simp
   ·simp[h]
theorem aOl (l:List Int) (x:Int):akz (k:=tI) (v:=.bool) x (aF2 l)=if l.contains x then some true else none:=aOn x l []
def atp (b:á) (s:Int×Int):List Int:=if s.1=3 then(match b.2.2.2.2.1[s.2.toNat]? with|some c=>c.2.2.1++c.2.2.2.1|none=>[]) else(match b.2.1[s.2.toNat]? with|some g=>[g.1]|none=>[])
def aFp (b:á) (ss looks:List (Int×Int)):List Int:=ss.flatMap (atp b)++looks.map fun n=>n.1
def awx (ss:List (Int×Int)):List Int:=(ss.filter fun s=>s.1==3).map fun s=>s.2
def as9 (w:List Int):Nat→List Cmp→List Cmp
 |_,[]=>[]
 |i,c::t=>if w.contains (i:Int) then c::as9 w (i+1) t else as9 w (i+1) t
def cutP (b:á) (ss looks:List (Int×Int)):á :=
 (b.1,b.2.1.filter fun g=>(aFp b ss looks).contains g.1,b.2.2.1.filter fun u=>(aFp b ss looks).contains u.1,b.2.2.2.1.filter fun l=>(aFp b ss looks).contains l.1,as9 (awx ss) 0 b.2.2.2.2.1,looks)
def a1O (b:á) (s:Int×Int):Prop:=((s.1=1∨s.1=2)∧0≤s.2∧s.2<b.2.1.length)∨(s.1=3∧0≤s.2∧s.2<b.2.2.2.2.1.length)
theorem aJa (w:List Int) (c:Cmp):∀(l:List Cmp) (i:Nat),as9 w i (l++[c])=as9 w i l++if w.contains ((i+l.length:Nat):Int) then[c] else[]
 |[],i=>by simp only[List.nil_append,as9,List.length_nil,Nat.add_zero]
 | a :: l, i => by
   have e:((i+1+l.length:Nat):Int)=((i+(l.length+1):Nat):Int):=by congr 1; omega
   simp only[List.cons_append,as9,aJa w c l (i+1),List.length_cons,e]
   split<;>rfl
theorem aET (w:List Int):∀(l:List Cmp) (i:Nat),(as9 w i l).length≤l.length
 |[],i=>by simp[as9]
 | a :: l, i => by
   have:=aET w l (i+1)
   simp only[as9]
   split<;>simp only[List.length_cons]<;>omega
theorem aoY {ρ:Type} (x:Int) (l:List Int) (f:Bool→Option ρ) (g:Option ρ):aNg (k:=tI) (v:=.bool) x (aF2 l) f g=if l.contains x then f true else g:=by
 unfold aNg
 rw[aOl]
 by_cases h:l.contains x=true
 ·rw[if_pos h,if_pos h]
 ·rw[if_neg h,if_neg h]
section
variable {ρ:Type}
theorem cut_L3 (l:List (Int×Int)) (hl:l.length≤1000) (ids:List Int) (K:List (Int×Int)→Option ρ):Ñ (fun(v47:(Val (.pair tI (.slice Ã)))) kk50=>akP l (Ü l) (aF2 ids) v47.1 v47.2 (fun u48 u49=>kk50 (u48,u49)) K) ((0:Int),[])=K (l.filter fun u=>ids.contains u.1):=by
 refine ù l (fun i=>(l.take i).filter fun u=>ids.contains u.1) _ rfl (fun i a hi ha kn=>?_) (fun kn=>?_)
 ·try dsimp only
  unfold akP
  have h1:=aiu (fun u:Int×Int=>ids.contains u.1) l i
  rw[Ô hi,É ha,aoY,take_succ ha,List.filter_append]
  by_cases h:ids.contains a.1=true
  ·rw[if_pos h,Ġ,ī (Ù (by simp only[List.length_singleton]; omega)),Ì hi (by omega)]
   simp only[List.filter_cons,List.filter_nil,h,if_pos]
  ·rw[if_neg h,Ì hi (by omega)]
   simp only[List.filter_cons,List.filter_nil,h,if_neg,Bool.false_eq_true,not_false_eq_true,List.append_nil]
 ·try dsimp only
  unfold akP
  rw[Ý,List.take_length]
theorem cut_L4 (l:List aBf) (hl:l.length≤1000) (ids:List Int) (K:List aBf→Option ρ):Ñ (fun(v47:(Val (.pair tI (.slice Ł)))) kk50=>akO l (Ü l) (aF2 ids) v47.1 v47.2 (fun u48 u49=>kk50 (u48,u49)) K) ((0:Int),[])=K (l.filter fun u=>ids.contains u.1):=by
 refine ù l (fun i=>(l.take i).filter fun u=>ids.contains u.1) _ rfl (fun i a hi ha kn=>?_) (fun kn=>?_)
 ·try dsimp only
  unfold akO
  have h1:=aiu (fun u:aBf=>ids.contains u.1) l i
  rw[Ô hi,É ha,aoY,take_succ ha,List.filter_append]
  by_cases h:ids.contains a.1=true
  ·rw[if_pos h,Ġ,ī (Ù (by simp only[List.length_singleton]; omega)),Ì hi (by omega)]
   simp only[List.filter_cons,List.filter_nil,h,if_pos]
  ·rw[if_neg h,Ì hi (by omega)]
   simp only[List.filter_cons,List.filter_nil,h,if_neg,Bool.false_eq_true,not_false_eq_true,List.append_nil]
 ·try dsimp only
  unfold akO
  rw[Ý,List.take_length]
theorem cut_L5 (l:List Cmp) (hl:l.length≤1000) (hp:∀c∈l,c.2.2.1.length≤1000∧c.2.2.2.1.length≤1000) (w:List Int) (K:List Cmp→Option ρ):Ñ (fun(v47:(Val (.pair tI (.slice Ê)))) kk50=>akN l (Ü l) (aF2 w) v47.1 v47.2 (fun u48 u49=>kk50 (u48,u49)) K) ((0:Int),[])=K (as9 w 0 l):=by
 refine ù l (fun i=>as9 w 0 (l.take i)) _ rfl (fun i a hi ha kn=>?_) (fun kn=>?_)
 ·try dsimp only
  unfold akN
  have h1:=aET w (l.take i) 0
  have h2:=hp a (List.mem_of_getElem? ha)
  have e:(l.take i).length=i:=by rw[List.length_take]; omega
  rw[Ô hi,É ha,aoY,take_succ ha,aJa,e,Nat.zero_add]
  by_cases h:w.contains (i:Int)=true
  ·rw[if_pos h,if_pos h,Ġ,ī (Ù (by omega)),ī (Ù (by omega)),ī (Ù (by simp only[List.length_singleton]; omega)),Ì hi (by omega)]
  ·rw[if_neg h,if_neg h,Ì hi (by omega)]
   simp only[List.append_nil]
 ·try dsimp only
  unfold akN
  rw[Ý,List.take_length]
theorem cut_L2 (looks:List (Int×Int)) (hl:looks.length≤1000) (ids:List Int) (K:List (Int×Bool)→Option ρ):Ñ (fun(v51:(Val (.pair tI (.map tI .bool)))) kk54=>akQ looks (Ü looks) v51.1 v51.2 (fun u52 u53=>kk54 (u52,u53)) K) ((0:Int),aF2 ids)=K (aF2 (ids++looks.map fun n=>n.1)):=by
 refine ù looks (fun i=>aF2 (ids++(looks.take i).map fun n=>n.1)) _ (by simp) (fun i a hi ha kn=>?_) (fun kn=>?_)
 ·try dsimp only
  unfold akQ
  rw[Ô hi,É ha,Ì hi (by omega),take_succ ha,List.map_append,←List.append_assoc,List.map_singleton,anz]
 ·try dsimp only
  unfold akQ
  rw[Ý,List.take_length]
theorem cut_L1 (xs:List Int) (hl:xs.length≤10000) (ids:List Int) (K:List (Int×Bool)→Option ρ):Ñ (fun(v13:(Val (.pair tI (.map tI .bool)))) kk16=>akR xs (Ü xs) v13.1 v13.2 (fun u14 u15=>kk16 (u14,u15)) K) ((0:Int),aF2 ids)=K (aF2 (ids++xs)):=by
 refine ù xs (fun i=>aF2 (ids++xs.take i)) _ (by simp) (fun i a hi ha kn=>?_) (fun kn=>?_)
 ·try dsimp only
  unfold akR
  rw[Ô hi,É ha,Ì hi (by omega),take_succ ha,←List.append_assoc,anz]
 ·try dsimp only
  unfold akR
  rw[Ý,List.take_length]
end
theorem aed {ρ α:Type} {l:List α} {i:Int} (h0:0≤i) {a:α} (h:l[i.toNat]?=some a) (f:α→Option ρ):ü l i f=f a:=by
 obtain⟨n,rfl⟩:=Int.eq_ofNat_of_zero_le h0
 exact É (by simpa using h) f
theorem cut_ok {b:á} (hs:Ļ b) {ss looks:List (Int×Int)} (h1:ss.length≤1000) (h2:looks.length≤1000) (hv:∀s∈ss,a1O b s):aFe b ss looks=some (cutP b ss looks):=by
 have g1:=hs.gauges; have g2:=hs.uses; have g3:=hs.loans; have g4:=hs.compares; have g5:=hs.looks
 unfold aFe aWY au3
 refine ù ss (fun i=>(aF2 ((ss.take i).flatMap (atp b)),aF2 (awx (ss.take i)))) _ rfl (fun i s hi ha kn=>?_) (fun kn=>?_)
 ·try dsimp only
  unfold apI
  have hok:=hv s (List.mem_of_getElem? ha)
  rw[Ô hi,É ha,take_succ ha,List.flatMap_append]
  have e3:awx (ss.take i++[s])=awx (ss.take i)++if s.1=3 then[s.2] else[]:=by
   unfold awx
   rw[List.filter_append,List.map_append]
   congr 1
   by_cases h:s.1=3<;>simp[h]
  rw[e3]
  rcases hok with⟨hk,h0,h3⟩|⟨hk,h0,h3⟩
  ·have hg:b.2.1[s.2.toNat]?=some b.2.1[s.2.toNat]:=List.getElem?_eq_getElem (by omega)
   generalize b.2.1[s.2.toNat]=g at hg
   have e1:atp b s=[g.1]:=by
    unfold atp
    rw[if_neg (by omega),hg]
   have e2:List.flatMap (atp b) [s]=[g.1]:=by simp[e1]
   rw[Ò (decide_eq_false (by omega)),if_neg (by omega),List.append_nil,e2,anz]
   rcases hk with hk|hk
   ·rw[Õ (decide_eq_true hk),aed h0 hg,Ì hi (by omega)]
   ·rw[Ò (decide_eq_false (by omega)),Õ (decide_eq_true hk),aed h0 hg,Ì hi (by omega)]
  ·have hc:b.2.2.2.2.1[s.2.toNat]?=some b.2.2.2.2.1[s.2.toNat]:=List.getElem?_eq_getElem (by omega)
   have hp:=hs.piles b.2.2.2.2.1[s.2.toNat] (List.getElem_mem _)
   generalize b.2.2.2.2.1[s.2.toNat]=c at hc hp
   have e1:atp b s=c.2.2.1++c.2.2.2.1:=by
    unfold atp
    rw[if_pos hk,hc]
   have e2:List.flatMap (atp b) [s]=c.2.2.1++c.2.2.2.1:=by simp[e1]
   rw[Ò (decide_eq_false (by omega)),Ò (decide_eq_false (by omega)),Ò (decide_eq_false (by omega)),ī (decide_eq_true hk),if_pos hk,e2,aed h0 hc,aed h0 hc,ahY (by simp) (by simp; omega),À]
   rw[show([c.2.2.1,c.2.2.2.1]:List (List Int)).flatten=c.2.2.1++c.2.2.2.1 by simp]
   refine(cut_L1 (c.2.2.1++c.2.2.2.1) (by simp; omega) _ _).trans ?_
   rw[anz,Ì hi (by omega)]
 ·try dsimp only
  unfold apI
  rw[Ý]
  dsimp only
  rw[List.take_length]
  refine(cut_L2 looks h2 _ _).trans ?_
  rw[show(ss.flatMap (atp b)++looks.map fun n=>n.1)=aFp b ss looks from rfl]
  unfold apQ
  try dsimp only
  rw[ī (Ù (by omega)),À]
  have ek:(List.filter (fun g=>(akz (k:=tI) (v:=.bool) g.1 (aF2 (aFp b ss looks))).getD false) b.2.1)=b.2.1.filter fun g=>(aFp b ss looks).contains g.1:=by
   refine List.filter_congr fun g _=>?_
   rw[aOl]
   cases(aFp b ss looks).contains g.1<;>rfl
  rw[ek]
  unfold agJ
  dsimp only
  refine(cut_L3 b.2.2.1 g2 _ _).trans ?_
  refine(cut_L4 b.2.2.2.1 g3 _ _).trans ?_
  refine(cut_L5 b.2.2.2.2.1 g4 hs.piles _ _).trans ?_
  rfl
end Go.Proofs.ZzM
end
noncomputable section
namespace Go.Proofs.ZzM
open Go Go.Am
theorem aND {α:Type} [DecidableEq α] {l m:List α} (hl:l.length=m.length) (h:ħ (fun i a=>if m[i]?=some a then none else some false) 0 l=none):l=m:=by
 have:=adu.1 h
 refine List.ext_getElem hl fun i h1 h2=>?_
 have h3:=this i l[i] (List.getElem?_eq_getElem h1)
 rw[Nat.zero_add] at h3
 split at h3
 ·rename_i h4
  rw[List.getElem?_eq_getElem h2] at h4
  exact(Option.some.inj h4).symm
 ·cases h3
theorem aNC {α:Type} [DecidableEq α] {l m:List α} {b:Bool} (h:ħ (fun i a=>if m[i]?=some a then none else some false) 0 l=some b):b=false∧l≠m:=by
 constructor
 ·have:∀(k:Nat) (x:List α) (b:Bool),ħ (fun i a=>if m[i]?=some a then none else some false) k x=some b→b=false:=by
   intro k x
   induction x generalizing k with
   |nil=>intro b h; cases h
   | cons a t ih =>
     intro b h
     unfold ħ at h
     split at h
     ·rename_i c hc
      split at hc
      ·cases hc
      ·cases hc; cases h; rfl
     ·exact ih _ _ h
  exact this _ _ _ h
 ·intro e
  subst e
  rw[adu.2 fun j a ha=>by rw[Nat.zero_add,if_pos ha]] at h
  cases h
end Go.Proofs.ZzM
end
noncomputable section
namespace Go.Proofs.ZzM
open Go Go.Am
instance dec1:DecidableEq ((Int×Int)×Int):=fun a b=>instDecidableEqProd a b
instance dec2:DecidableEq ((Int×Int)×((Int×Int)×Int)):=fun a b=>instDecidableEqProd a b
instance dec3:DecidableEq (Int×(Int×Int)×((Int×Int)×Int)):=fun a b=>instDecidableEqProd a b
instance dec4:DecidableEq (Int×Int×(Int×Int)×((Int×Int)×Int)):=fun a b=>instDecidableEqProd a b
instance decG:DecidableEq ç:=fun a b=>instDecidableEqProd a b
instance decL:DecidableEq aBf:=fun a b=>instDecidableEqProd a b
instance decI4:DecidableEq (Int×(Int×(Int×Int))):=fun a b=>instDecidableEqProd a b
instance decI5:DecidableEq (List Int×Int×(Int×(Int×Int))):=fun a b=>instDecidableEqProd a b
instance decI6:DecidableEq (List Int×List Int×Int×(Int×(Int×Int))):=fun a b=>instDecidableEqProd a b
instance decI7:DecidableEq (Int×List Int×List Int×Int×(Int×(Int×Int))):=fun a b=>instDecidableEqProd a b
instance decC:DecidableEq Cmp:=fun a b=>instDecidableEqProd a b
def aiT {α:Type} [DecidableEq α] (x:α) (l:List α):Bool:=l.any fun a=>decide (x=a)
theorem aTC {α:Type} [DecidableEq α] {x:α} {l:List α}:aiT x l=true↔x∈l:=by
 unfold aiT
 rw[List.any_eq_true]
 exact⟨fun⟨a,h1,h2⟩=>by rw[of_decide_eq_true h2]; exact h1,fun h=>⟨x,h,decide_eq_true rfl⟩⟩
theorem aRn {α:Type} [DecidableEq α] (l:List α) (x:α):ige (match l.findIdx? (fun a=>decide (x=a)) with|some j=>(j:Int)|none=>-1) 0=aiT x l:=by
 cases h:l.findIdx? (fun a=>decide (x=a)) with
 | none =>
   have:aiT x l=false:=by
    cases hm:aiT x l with
    |false=>rfl
    |true=>have:=List.findIdx?_eq_none_iff.1 h x (aTC.1 hm); simp at this
   rw[this]
   rfl
 | some j =>
   obtain⟨hj,hp,_⟩:=List.findIdx?_eq_some_iff_getElem.1 h
   have:x∈l:=by rw[of_decide_eq_true hp]; exact List.getElem_mem _
   rw[aTC.2 this]
   exact decide_eq_true (by dsimp only; omega)
theorem aWT {ρ:Type} (o:Option Nat) (f:Int→Option ρ):(match o with|some j=>f (j:Int)|none=>f (-1))=f (match o with|some j=>(j:Int)|none=>-1):=by cases o<;>rfl
theorem aQO {l:List (Int×Int)} (hl:l.length≤1000000) (x:Int×Int):ĕ l x=some (aiT x l):=by
 unfold ĕ ś Ι Ζ
 have e:Ñ (fun(v5:Int) kk7=>Ē l (Ü l) x.1 x.2 v5 (fun u6=>kk7 u6) (fun z3=>some z3) (fun _=>some (-1:Int))) (0:Int)=some (match l.findIdx? (fun a=>decide (x=a)) with|some j=>(j:Int)|none=>-1):=by
  refine(π l (fun a=>decide (x=a)) (fun z=>some z) (some (-1)) (fun i a hi ha kn=>?_) (fun kn=>?_)).trans (aWT _ some)
  ·try dsimp only
   unfold Ē
   have e:((û x.1 a.1)&&((û x.2 a.2)&&true))=decide (x=a):=by
    rw[Bool.eq_iff_iff]; simp[û,Prod.ext_iff]
   rw[Ô hi,É ha,Ì hi (by omega),ď,e]
  ·try dsimp only
   unfold Ē
   rw[Ý]
 rw[e,À]
 exact congrArg some (aRn l x)
theorem aNd {l:List aBf} (hl:l.length≤1000000) (x:aBf):ć l x=some (aiT x l):=by
 unfold ć ŋ Ů Ŭ
 have e:Ñ (fun(v5:Int) kk7=>Ć l (Ü l) x.1 x.2.1.1 x.2.1.2 x.2.2 v5 (fun u6=>kk7 u6) (fun z3=>some z3) (fun _=>some (-1:Int))) (0:Int)=some (match l.findIdx? (fun a=>decide (x=a)) with|some j=>(j:Int)|none=>-1):=by
  refine(π l (fun a=>decide (x=a)) (fun z=>some z) (some (-1)) (fun i a hi ha kn=>?_) (fun kn=>?_)).trans (aWT _ some)
  ·try dsimp only
   unfold Ć
   have e:((û x.1 a.1)&&((û x.2.1.1 a.2.1.1)&&((û x.2.1.2 a.2.1.2)&&((û x.2.2 a.2.2)&&true))))=decide (x=a):=by
    rw[Bool.eq_iff_iff]; simp[û,Prod.ext_iff,and_assoc]
   rw[Ô hi,É ha,Ì hi (by omega),ď,e]
  ·try dsimp only
   unfold Ć
   rw[Ý]
 rw[e,À]
 exact congrArg some (aRn l x)
theorem aQP {l:List ç} (hl:l.length≤1000000) (x:ç):Ě l x=some (aiT x l):=by
 unfold Ě Ľ ŗ Ŗ
 have e:Ñ (fun(v5:Int) kk7=>Ā l (Ü l) x.1 x.2.1 x.2.2.1 x.2.2.2.1.1 x.2.2.2.1.2 x.2.2.2.2.1.1 x.2.2.2.2.1.2 x.2.2.2.2.2 v5 (fun u6=>kk7 u6) (fun z3=>some z3) (fun _=>some (-1:Int))) (0:Int)=some (match l.findIdx? (fun a=>decide (x=a)) with|some j=>(j:Int)|none=>-1):=by
  refine(π l (fun a=>decide (x=a)) (fun z=>some z) (some (-1)) (fun i a hi ha kn=>?_) (fun kn=>?_)).trans (aWT _ some)
  ·try dsimp only
   unfold Ā
   have e:((û x.1 a.1)&&((û x.2.1 a.2.1)&&((û x.2.2.1 a.2.2.1)&&((û x.2.2.2.1.1 a.2.2.2.1.1)&&((û x.2.2.2.1.2 a.2.2.2.1.2)&&((û x.2.2.2.2.1.1 a.2.2.2.2.1.1)&&((û x.2.2.2.2.1.2 a.2.2.2.2.1.2)&&((û x.2.2.2.2.2 a.2.2.2.2.2)&&true))))))))=decide (x=a):=by
    rw[Bool.eq_iff_iff]; simp[û,Prod.ext_iff,and_assoc]
   rw[Ô hi,É ha,Ì hi (by omega),ď,e]
  ·try dsimp only
   unfold Ā
   rw[Ý]
 rw[e,À]
 exact congrArg some (aRn l x)
def av9 (b:á):List Int:=b.2.1.map fun g=>g.1
def ω {α:Type} [DecidableEq α] (x y:List α) (w:α→Bool):Bool:=x.all fun a=>!w a||aiT a y
def aF6 (s b:á):Bool :=
 ω s.2.2.2.2.1 b.2.2.2.2.1 (fun _=>true)&&(decide (s.1=b.1)&&(ω s.2.1 b.2.1 (fun _=>true)&&(ω s.2.2.1 b.2.2.1 (fun u=>(av9 s).contains u.1)&&(ω b.2.2.1 s.2.2.1 (fun u=>(av9 s).contains u.1) &&
  (ω s.2.2.2.1 b.2.2.2.1 (fun u=>(av9 s).contains u.1)&&ω b.2.2.2.1 s.2.2.2.1 (fun u=>(av9 s).contains u.1))))))
section
variable {ρ:Type}
theorem ayO {α:Type} [DecidableEq α] (x y:List α) (w:α→Bool) (X Y KF:Option ρ) {f:Int→(Int→Option ρ)→Option ρ}
 (h:∀(i:Nat) (a:α),i<x.length→x[i]?=some a→∀kn,f i kn=if !(!w a||aiT a y) then(ifb (!(ige (i:Int) 0)) X KF) else kn ((i:Int)+1))
 (hn:∀kn,f x.length kn=Y):Ñ f 0=if ω x y w then Y else KF:=by
 refine(ģ x (fun a=>!(!w a||aiT a y)) (fun z=>ifb (!(ige z 0)) X KF) KF Y (fun j=>by rw[show ige (j:Int) 0=true from decide_eq_true (by omega)]; rfl) h hn).trans ?_
 unfold ω
 rw[List.all_eq_not_any_not]
 cases x.any fun a=>!(!w a||aiT a y)<;>rfl
theorem a1e:@alM ρ=@af7 ρ:=rfl
theorem aI6 {x y:List Int} (hl:x.length=y.length) (hx:x.length≤1000000) (k0:Bool→Option ρ) (K:Option ρ) :
 Ñ (fun(v30:Int) kk32=>af7 x y (Ü x) v30 (fun u31=>kk32 u31) k0 (fun _=>K)) (0:Int)=if x=y then K else k0 false:=by
 refine(aec x (fun i a=>if y[i]?=some a then none else some false) k0 K (fun i a hi ha kn=>?_) (fun kn=>?_)).trans ?_
 ·try dsimp only
  unfold af7
  have hm:y[i]?=some y[i]:=List.getElem?_eq_getElem (by omega)
  rw[Ô hi,É ha,É hm,Ì hi (by omega),hm,ď]
  by_cases h:a=y[i]
  ·simp[ine,h]
  ·have h':¬y[i]=a:=fun e=>h e.symm
   simp[ine,h,h']
 ·try dsimp only
  unfold af7
  rw[Ý]
 ·cases h:ħ (fun i a=>if y[i]?=some a then none else some false) 0 x with
  |none=>rw[if_pos (aND hl h)]
  | some b =>
    obtain⟨h1,h2⟩:=aNC h
    rw[if_neg h2,h1]
theorem aWj {l:List Cmp} (hl:l.length≤1000) (c:Cmp) (hA:c.2.2.1.length≤1000) (hB:c.2.2.2.1.length≤1000) (k0:Int→Option ρ) (K1 KF:Option ρ) (hk:∀j:Nat,k0 (j:Int)=K1) :
 Ñ (fun(v41:Int) kk43=>aih l (Ü l) c.1 c.2.1 c.2.2.1 c.2.2.2.1 c.2.2.2.2.1 c.2.2.2.2.2.1 c.2.2.2.2.2.2.1 c.2.2.2.2.2.2.2 v41 (fun u42=>kk43 u42) k0 (fun _=>KF)) (0:Int)=if aiT c l then K1 else KF:=by
 refine(ģ l (fun d=>decide (c=d)) k0 K1 KF hk (fun i d hi hd kn=>?_) (fun kn=>?_)).trans rfl
 ·try dsimp only
  unfold aih
  have hsplit:(c=d)↔(c.1=d.1∧c.2.1=d.2.1∧c.2.2.2.2.1=d.2.2.2.2.1∧c.2.2.2.2.2.1=d.2.2.2.2.2.1∧(c.2.2.2.2.2.2.1=d.2.2.2.2.2.2.1∧c.2.2.2.2.2.2.2=d.2.2.2.2.2.2.2)∧c.2.2.1=d.2.2.1∧c.2.2.2.1=d.2.2.2.1):=by
   simp only[Prod.ext_iff]
   constructor
   ·rintro⟨a1,a2,a3,a4,a5,a6,a7,a8⟩; exact⟨a1,a2,a5,a6,⟨a7,a8⟩,a3,a4⟩
   ·rintro⟨a1,a2,a5,a6,⟨a7,a8⟩,a3,a4⟩; exact⟨a1,a2,a3,a4,a5,a6,a7,a8⟩
  have hno:∀{P:Prop},¬P→(c=d→P)→(if decide (c=d)=true then k0 (i:Int) else kn ((i:Int)+1))=kn ((i:Int)+1):=fun h1 h2=>by
   rw[if_neg]
   intro h
   exact h1 (h2 (of_decide_eq_true h))
  rw[Ô hi,É hd,Ì hi (by omega)]
  by_cases a1:c.1=d.1
  case neg=>rw[hno a1 (fun e=>(hsplit.1 e).1),Ò (beq_eq_false_iff_ne.2 a1)]
  rw[Õ (beq_iff_eq.2 a1)]
  by_cases a2:c.2.1=d.2.1
  case neg=>rw[hno a2 (fun e=>(hsplit.1 e).2.1),Ò (beq_eq_false_iff_ne.2 a2)]
  rw[Õ (beq_iff_eq.2 a2)]
  by_cases a3:c.2.2.2.2.1=d.2.2.2.2.1
  case neg=>rw[hno a3 (fun e=>(hsplit.1 e).2.2.1),Ò (beq_eq_false_iff_ne.2 a3)]
  rw[Õ (beq_iff_eq.2 a3)]
  by_cases a4:c.2.2.2.2.2.1=d.2.2.2.2.2.1
  case neg=>rw[hno a4 (fun e=>(hsplit.1 e).2.2.2.1),Ò (beq_eq_false_iff_ne.2 a4)]
  rw[Õ (beq_iff_eq.2 a4)]
  by_cases a5:c.2.2.2.2.2.2.1=d.2.2.2.2.2.2.1∧c.2.2.2.2.2.2.2=d.2.2.2.2.2.2.2
  case neg=>rw[hno a5 (fun e=>(hsplit.1 e).2.2.2.2.1),Ò (by simp only[û,Bool.and_true,Bool.and_eq_false_iff,decide_eq_false_iff_not]; exact Decidable.not_and_iff_or_not.1 a5)]
  rw[Õ (by simp[û,a5.1,a5.2]),â,â,â,â]
  have rest:∀X Y:Option ρ,(c.2.2.1=d.2.2.1)→(if decide (c=d)=true then k0 (i:Int) else kn ((i:Int)+1))=(if c.2.2.2.1=d.2.2.2.1 then k0 (i:Int) else kn ((i:Int)+1)):=by
   intro _ _ h
   by_cases g:c.2.2.2.1=d.2.2.2.1
   ·rw[if_pos (decide_eq_true (hsplit.2 ⟨a1,a2,a3,a4,a5,h,g⟩)),if_pos g]
   ·rw[if_neg g]; exact hno g (fun e=>(hsplit.1 e).2.2.2.2.2.2)
  by_cases l1:c.2.2.1.length=d.2.2.1.length
  case neg =>
   rw[hno l1 (fun e=>by rw[e]),Õ (bne_iff_ne.2 (by omega))]
  rw[Ò (by rw[l1]; exact bne_self_eq_false' _)]
  have e3:=aI6 (ρ:=ρ) l1 (by omega)
  rw[â] at e3
  rw[e3]
  by_cases g1:c.2.2.1=d.2.2.1
  case neg=>rw[if_neg g1,ã,hno g1 (fun e=>(hsplit.1 e).2.2.2.2.2.1)]
  rw[if_pos g1,rest none none g1]
  by_cases l2:c.2.2.2.1.length=d.2.2.2.1.length
  case neg =>
   rw[Õ (bne_iff_ne.2 (by omega)),if_neg (fun e=>l2 (by rw[e]))]
  rw[Ò (by rw[l2]; exact bne_self_eq_false' _),a1e]
  have e4:=aI6 (ρ:=ρ) l2 (by omega)
  rw[â] at e4
  rw[e4,ã]
 ·try dsimp only
  unfold aih
  rw[Ý]
theorem a1d:@af6 ρ=@aeW ρ:=rfl
theorem a1c:@Đ ρ=@ĵ ρ:=rfl
theorem a1X {x y:List ç} (hx:x.length≤1000) (hy:y.length≤1000) (X Y KF:Option ρ):Ñ (fun(v225:Int) kk227=>aig x (Ü x) y v225 (fun u226=>kk227 u226) (fun z=>ifb (!(ige z 0)) X KF) (fun _=>Y)) (0:Int)=if ω x y (fun _=>true) then Y else KF:=by
 refine ayO x y (fun _=>true) X Y KF (fun i a hi ha kn=>?_) (fun kn=>?_)
 ·try dsimp only
  unfold aig
  rw[Ô hi,É ha,aQP (by omega),À,Ì hi (by omega),ď]
  simp
 ·try dsimp only
  unfold aig
  rw[Ý]
theorem aYP {x y:List (Int×Int)} (hx:x.length≤1000) (hy:y.length≤1000) (ids:List Int) (X Y KF:Option ρ):Ñ (fun(v225:Int) kk227=>aeW x (Ü x) (aF2 ids) y v225 (fun u226=>kk227 u226) (fun z=>ifb (!(ige z 0)) X KF) (fun _=>Y)) (0:Int)=if ω x y (fun u=>ids.contains u.1) then Y else KF:=by
 refine ayO x y (fun u=>ids.contains u.1) X Y KF (fun i a hi ha kn=>?_) (fun kn=>?_)
 ·try dsimp only
  unfold aeW
  rw[Ô hi,É ha,aoY,aQO (by omega),À]
  by_cases h:ids.contains a.1=true
  ·rw[if_pos h,Ġ,Ì hi (by omega),ď,h]
   simp
  ·rw[if_neg h,Ì hi (by omega)]
   have h':=Bool.not_eq_true _▸h
   rw[h']
   simp
 ·try dsimp only
  unfold aeW
  rw[Ý]
theorem aYO {x y:List aBf} (hx:x.length≤1000) (hy:y.length≤1000) (ids:List Int) (X Y KF:Option ρ):Ñ (fun(v225:Int) kk227=>ĵ x (Ü x) (aF2 ids) y v225 (fun u226=>kk227 u226) (fun z=>ifb (!(ige z 0)) X KF) (fun _=>Y)) (0:Int)=if ω x y (fun u=>ids.contains u.1) then Y else KF:=by
 refine ayO x y (fun u=>ids.contains u.1) X Y KF (fun i a hi ha kn=>?_) (fun kn=>?_)
 ·try dsimp only
  unfold ĵ
  rw[Ô hi,É ha,aoY,aNd (by omega),À]
  by_cases h:ids.contains a.1=true
  ·rw[if_pos h,Ġ,Ì hi (by omega),ď,h]
   simp
  ·rw[if_neg h,Ì hi (by omega)]
   have h':=Bool.not_eq_true _▸h
   rw[h']
   simp
 ·try dsimp only
  unfold ĵ
  rw[Ý]
theorem a1W {x y:List aBf} (hx:x.length≤1000) (hy:y.length≤1000) (ids:List Int) (k:Bool→Option ρ):Ñ (fun(v225:Int) kk227=>ĵ x (Ü x) (aF2 ids) y v225 (fun u226=>kk227 u226) (fun z=>k (!(ige z 0))) (fun _=>k true)) (0:Int)=k (ω x y (fun u=>ids.contains u.1)):=by
 have h:=aYO (ρ:=ρ) hx hy ids (k true) (k true) (k false)
 have e:(fun z:Int=>ifb (!(ige z 0)) (k true) (k false))=fun z=>k (!(ige z 0)):=by
  funext z
  cases(!(ige z 0))<;>rfl
 rw[e] at h
 rw[h]
 cases ω x y (fun u=>ids.contains u.1)<;>rfl
theorem a1Y {x y:List Cmp} (hx:x.length≤1000) (hp:∀c∈x,c.2.2.1.length≤1000∧c.2.2.2.1.length≤1000) (hy:y.length≤1000) (K:Option Bool):Ñ (fun(v228:Int) kk230=>aii x (Ü x) y v228 (fun u229=>kk230 u229) (fun z44=>some z44) (fun _=>K)) (0:Int)=if (x.all fun c=>aiT c y)=true then K else some false:=by
 refine(ģ x (fun c=>!aiT c y) (fun _=>some false) (some false) K (fun _=>rfl) (fun i c hi hc kn=>?_) (fun kn=>?_)).trans ?_
 rotate_left
 ·try dsimp only
  unfold aii
  rw[Ý]
 ·rw[List.all_eq_not_any_not]
  cases x.any fun c=>!aiT c y<;>rfl
 ·try dsimp only
  unfold aii
  have h:=hp c (List.mem_of_getElem? hc)
  rw[Ô hi,É hc]
  refine(aWj hy c h.1 h.2 _ (kn ((i:Int)+1)) (some false) (fun j=>by rw[show ige (j:Int) 0=true from decide_eq_true (by omega),Ì hi (by omega)]; rfl)).trans ?_
  cases aiT c y<;>rfl
end
theorem part_ok {s b:á} (hs:Ļ s) (hb:Ļ b):ap6 s b=some (aF6 s b):=by
 have g1:=hs.gauges; have g2:=hs.uses; have g3:=hs.loans; have g4:=hs.compares
 have b1:=hb.gauges; have b2:=hb.uses; have b3:=hb.loans; have b4:=hb.compares
 unfold ap6 aLi aF6
 rw[a1d,a1c]
 refine(ù s.2.1 (fun i=>aF2 (av9 (s.1,s.2.1.take i,s.2.2))) (some _) rfl (fun i g hi hg kn=>?_) (fun kn=>?_))
 ·try dsimp only
  unfold alN
  rw[Ô hi,É hg,Ì hi (by omega)]
  unfold av9
  dsimp only
  rw[take_succ hg,List.map_append,List.map_singleton,anz]
 ·try dsimp only
  unfold alN
  rw[Ý,List.take_length]
  try dsimp only
  rw[show av9 (s.1,s.2.1,s.2.2)=av9 s from rfl]
  refine(a1Y g4 hs.piles b4 _).trans ?_
  rw[show(ω s.2.2.2.2.1 b.2.2.2.2.1 fun _=>true)=s.2.2.2.2.1.all fun c=>aiT c b.2.2.2.2.1 from rfl]
  by_cases hc:(s.2.2.2.2.1.all fun c=>aiT c b.2.2.2.2.1)=true
  case neg=>rw[if_neg hc,Bool.eq_false_iff.2 hc]; rfl
  rw[if_pos hc,hc,Bool.true_and]
  by_cases hf:s.1=b.1
  case neg =>
   have ef:(û s.1.1 b.1.1&&(û s.1.2 b.1.2&&true))=false:=by
    rw[Prod.ext_iff] at hf
    simp[û]
    omega
   rw[ef,ã,decide_eq_false hf]
   rfl
  have ef:(û s.1.1 b.1.1&&(û s.1.2 b.1.2&&true))=true:=by simp[û,hf]
  rw[ef,Ġ,decide_eq_true hf,Bool.true_and]
  refine(a1X g1 b1 _ _ _).trans ?_
  cases ω s.2.1 b.2.1 fun _=>true
  case false=>rfl
  rw[if_pos rfl,Bool.true_and]
  refine(aYP g2 b2 _ _ _ _).trans ?_
  cases ω s.2.2.1 b.2.2.1 fun u=>(av9 s).contains u.1
  case false=>rfl
  rw[if_pos rfl,Bool.true_and]
  refine(aYP b2 g2 _ _ _ _).trans ?_
  cases ω b.2.2.1 s.2.2.1 fun u=>(av9 s).contains u.1
  case false=>rfl
  rw[if_pos rfl,Bool.true_and]
  refine(aYO g3 b3 _ _ _ _).trans ?_
  cases ω s.2.2.2.1 b.2.2.2.1 fun u=>(av9 s).contains u.1
  case false=>rfl
  rw[if_pos rfl,Bool.true_and]
  exact a1W b3 g3 _ some
end Go.Proofs.ZzM
end
noncomputable section
namespace Go.Proofs.ZzM
open Go Go.Am
def anj (x:List Int) (y:List Int) (l:Lk):List Int:=if gv x l.2.1=ade then y else y.set l.1.toNat (min (gv y l.1) (l.2.2+gv x l.2.1))
def aQe (L:List Lk) (N:Nat) (x:List Int):List Int:=L.foldl (anj x) (List.replicate N ade)
def exL (L:List Lk) (N:Nat) (to:Int):Nat→List Int
 |0=>(List.replicate N ade).set to.toNat 0
 |k+1=>aQe L N (exL L N to k)
def ahg (L:List Lk) (N:Nat) (to:Int) (most:Nat):List (List Int):=(List.range (most+1)).map (exL L N to)
section
variable {L:List Lk} {N:Nat}
theorem aJp (x y:List Int) (l:Lk):(anj x y l).length=y.length:=by unfold anj; split<;>simp
theorem ayy (x:List Int):∀(M:List Lk) (y:List Int),(M.foldl (anj x) y).length=y.length
 |[],y=>rfl
 |l::M,y=>by rw[List.foldl_cons,ayy x M,aJp]
theorem aVe (x:List Int):(aQe L N x).length=N:=by unfold aQe; rw[ayy]; simp
theorem aSn (to:Int) (k:Nat):(exL L N to k).length=N:=by
 cases k with
 |zero=>simp[exL]
 |succ k=>exact aVe _
def Lim (B:Int) (x:List Int):Prop:=∀v:Int,gv x v≠ade→-B≤gv x v∧gv x v≤B
theorem gv_out {x:List Int} {v:Int} (h:¬v.toNat<x.length):gv x v=0:=by
 unfold gv
 rw[List.getElem?_eq_none (by omega)]
 rfl
theorem aXg {B:Int} (hB:0≤B):Lim B (List.replicate N ade):=by
 intro v hv
 by_cases h:v.toNat<N
 ·exfalso; apply hv
  unfold gv
  rw[List.getElem?_replicate,if_pos h]
  rfl
 ·rw[gv_out (by simpa using h)]; omega
theorem aXf {B:Int} {y:List Int} (hy:Lim B y) {u:Int} (hu:0≤u) (hl:u.toNat<y.length) {a:Int} (ha:a≠ade→-B≤a∧a≤B):Lim B (y.set u.toNat a):=by
 intro v hv
 by_cases h:v.toNat=u.toNat
 ·have:gv (y.set u.toNat a) v=a:=by
   unfold gv
   rw[h,List.getElem?_set_self hl]
   rfl
  rw[this] at hv ⊢
  exact ha hv
 ·have:gv (y.set u.toNat a) v=gv y v:=by
   unfold gv
   rw[List.getElem?_set_ne (fun e=>h e.symm)]
  rw[this] at hv ⊢
  exact hy v hv
theorem aZw (hS:adx L N) {B:Int} (hB:0≤B) (hB2:B≤1000000000000000000) {x y:List Int} (hx:Lim B x) (hy:Lim (B+4503599627370496) y) (hl:y.length=N) {l:Lk} (hm:l∈L):Lim (B+4503599627370496) (anj x y l):=by
 unfold anj
 split
 ·exact hy
 ·rename_i hf
  have h1:=hS.inr l hm
  have h2:=hS.most l hm
  have h3:=hx _ hf
  refine aXf hy h1.1.1 (by omega) fun ha=>?_
  by_cases h4:gv y l.1=ade
  ·rw[h4] at ha ⊢
   have:min ade (l.2.2+gv x l.2.1)=l.2.2+gv x l.2.1:=by unfold ade; omega
   rw[this]; omega
  ·have:=hy _ h4
   omega
theorem aTH (hS:adx L N) {B:Int} (hB:0≤B) (hB2:B≤1000000000000000000) {x:List Int} (hx:Lim B x):∀(M:List Lk),(∀l∈M,l∈L)→∀y:List Int,y.length=N→Lim (B+4503599627370496) y→Lim (B+4503599627370496) (M.foldl (anj x) y)
 |[],_,y,_,hy=>hy
 | l :: M, hM, y, hl, hy => by
   rw[List.foldl_cons]
   exact aTH hS hB hB2 hx M (fun m hm=>hM m (by simp[hm])) _ (by rw[aJp,hl]) (aZw hS hB hB2 hx hy hl (hM l (by simp)))
theorem aSc (hS:adx L N) {to:Int} (ht:0≤to∧to<N):∀k:Nat,k≤200→Lim (k*4503599627370496) (exL L N to k)
 | 0, _ => by
   unfold exL
   exact aXf (aXg (by omega)) ht.1 (by simp; omega) (fun _=>by omega)
 | k + 1, hk => by
   have:=aTH hS (B:=k*4503599627370496) (by omega) (by omega) (aSc hS ht k (by omega)) L (fun _ h=>h) (List.replicate N ade) (by simp) (aXg (by omega))
   unfold exL aQe
   have e:(((k+1:Nat):Int)*4503599627370496)=(k:Int)*4503599627370496+4503599627370496:=by push_cast; omega
   rw[e]
   exact this
theorem aQb {ρ:Type} (hN:N≤1000) (K:List Int→Option ρ) {f:Int×List Int→(Int×List Int→Option ρ)→Option ρ}
 (hf:∀(v:Int×List Int) kk,f v kk=apK (N:Int) v.1 v.2 (fun u34 u35=>kk (u34,u35)) K):Ñ f ((0:Int),List.replicate N (0:Int))=K (List.replicate N ade):=by
 refine ù (List.replicate N (0:Int)) (fun i=>List.replicate i ade++List.replicate (N-i) (0:Int)) _ (by simp) (fun i a hi ha kn=>?_) (fun kn=>?_)
 ·rw[hf]
  dsimp only
  unfold apK
  rw[List.length_replicate] at hi
  have hlen:(List.replicate i ade++List.replicate (N-i) (0:Int)).length=N:=by simp; omega
  have e1:ilt (i:Int) (N:Int)=true:=decide_eq_true (by omega)
  rw[Õ e1,show Ĩ (List.replicate i ade++List.replicate (N-i) (0:Int))=(N:Int) by unfold Ĩ; rw[hlen],adY (by omega) (by omega),aeR (by rw[hlen]; omega),Û (by omega) (by omega)]
  congr 2
  rw[Int.toNat_natCast]
  rw[List.set_append_right _ _ (by simp),List.length_replicate,Nat.sub_self]
  rw[show N-i=(N-(i+1))+1 by omega,List.replicate_succ,List.set_cons_zero,List.replicate_succ']
  simp
 ·rw[hf]
  dsimp only
  unfold apK
  rw[List.length_replicate]
  have e1:ilt (N:Int) (N:Int)=false:=decide_eq_false (by omega)
  rw[Ò e1]
  simp
theorem okN (hN:N≤1000) {ρ:Type} (x:Option ρ):ô ((ile (0:Int) (N:Int))&&(ì (Int.toNat (N:Int)))) x=x:=by
 rw[ī]
 rw[Int.toNat_natCast,Ù (by omega),Bool.and_true]
 exact decide_eq_true (by omega)
theorem aXe {ρ:Type} (hS:adx L N) {B:Int} (hB:0≤B) (hB2:B≤1000000000000000000) {x:List Int} (hx:Lim B x) (hxl:x.length=N) (K:List Int→Option ρ) :
 Ñ (fun(v20:(Val (.pair tI (.slice tI)))) kk23=>avl x L (Ü L) v20.1 v20.2 (fun u21 u22=>kk23 (u21,u22)) K) ((0:Int),List.replicate N ade)=K (aQe L N x):=by
 have hl3:=hS.len
 refine ù L (fun i=>(L.take i).foldl (anj x) (List.replicate N ade)) _ rfl (fun i l hi hl kn=>?_) (fun kn=>?_)
 ·try dsimp only
  unfold avl
  have hm:=List.mem_of_getElem? hl
  have h1:=hS.inr l hm
  have h2:=hS.most l hm
  rw[Ô hi,É hl,ao2 h1.2.1 (by omega),take_succ hl,List.foldl_append,Ì hi (by omega)]
  have hlen:((L.take i).foldl (anj x) (List.replicate N ade)).length=N:=by rw[ayy]; simp
  generalize (L.take i).foldl (anj x) (List.replicate N ade)=y at hlen ⊢
  by_cases hf:gv x l.2.1=ade
  ·rw[Ò (by rw[hf]; rfl)]
   simp only[List.foldl_cons,List.foldl_nil]
   unfold anj
   rw[if_pos hf]
  ·have h3:=hx _ hf
   rw[Õ (bne_iff_ne.2 hf),show Ĩ y=(N:Int) by unfold Ĩ; rw[hlen],adY h1.1.1 h1.1.2,aeR (by omega),ao2 h1.2.1 (by omega),Û (by omega) (by omega),adY h1.1.1 h1.1.2,aeR (by omega),Ì hi (by omega)]
   simp only[List.foldl_cons,List.foldl_nil]
   unfold anj
   rw[if_neg hf,ayq]
 ·try dsimp only
  unfold avl
  rw[Ý,List.take_length]
  rfl
theorem aZM {ρ:Type}:@aLE ρ=@apK ρ:=rfl
theorem ae9 (to:Int) (m:Nat):(ahg L N to m).length=m+1:=by simp[ahg]
theorem ayx {to:Int} {m k:Nat} (hk:k≤m):(ahg L N to m)[k]?=some (exL L N to k):=by
 unfold ahg
 rw[List.getElem?_map,List.getElem?_range (by omega)]
 rfl
theorem aZL (hS:adx L N) {to:Int} (ht:0≤to∧to<N) {most:Nat} (hm:most≤100):apa ((N:Int),L) to (most:Int)=some (ahg L N to most):=by
 have hN:=hS.n60
 unfold apa aDV
 dsimp only
 rw[okN (by omega),Int.toNat_natCast]
 refine(aQb (by omega) _ (fun v kk=>by rw[â,List.length_replicate])).trans ?_
 rw[show Ĩ (List.replicate N ade)=(N:Int) by simp[Ĩ],adY ht.1 ht.2,aeR (by simp; omega)]
 refine ù (List.replicate most ()) (fun i=>ahg L N to i) _ (by simp[ahg,exL]) (fun i a hi ha kn=>?_) (fun kn=>?_)
 ·try dsimp only
  unfold aBv
  rw[List.length_replicate] at hi
  have e1:ilt (i:Int) (most:Int)=true:=decide_eq_true (by omega)
  rw[Õ e1,â,ae9]
  have e2:(((i+1:Nat):Int)-1)=(i:Int):=by omega
  rw[e2,Û (by omega) (by omega),show Ĩ (ahg L N to i)=((i+1:Nat):Int) by unfold Ĩ; rw[ae9],adY (by omega) (by omega),Int.toNat_natCast,alv (ayx (Nat.le_refl i)),okN (by omega),Int.toNat_natCast]
  rw[aZM]
  refine(aQb (by omega) _ (fun v kk=>by rw[â,List.length_replicate])).trans ?_
  refine(aXe hS (B:=i*4503599627370496) (by omega) (by omega) (aSc hS ht i (by omega)) (aSn _ _) _).trans ?_
  rw[ī (Ù (by simp only[ae9,List.length_singleton]; omega)),Û (by omega) (by omega)]
  congr 2
  unfold ahg
  rw[List.range_succ (n:=i+1),List.map_append]
  rfl
 ·try dsimp only
  unfold aBv
  rw[List.length_replicate]
  have e1:ilt (most:Int) (most:Int)=false:=decide_eq_false (by omega)
  rw[Ò e1]
def aF7 (L:List Lk) (x:List Int) (good:Int→Bool) (u sum:Int):Option Nat:=L.findIdx? fun l=>l.1==u&&(decide (gv x l.2.1≠ade)&&good (sum+l.2.2+gv x l.2.1))
def akf (L:List Lk) (rest:Nat→List Int) (good:Int→Bool):Nat→Int→Int→List Int→List Int
 |0,_,_,out=>out
 | k + 1, u, sum, out => match aF7 L (rest k) good u sum with
   |some i=>akf L rest good k (L[i]?.getD (0,0,0)).2.1 (sum+(L[i]?.getD (0,0,0)).2.2) (out++[(i:Int)])
   |none=>akf L rest good k u sum out
def folL {ρ:Type} (good:Int→Bool) (c0:Int) (c1:List (List Int)) (c2:List Lk) (c3:Int) (v0:Int) (v1:Int) (v2:Int) (v3:List Int) (kn:Int→Int→Int→List Int→Option ρ) (k0:Int×Int×List Int→Option ρ):Option ρ :=
 ifb (ilt v2 c3) (ü c2 v2 fun e7=>ifb (ieq e7.1 v0) (ck (c0-(1:Int)) fun n8=>ü c1 n8 fun e9=>ü e9 e7.2.1 fun e10=>ifb (ine e10 (1152921504606846976:Int)) (ck (v1+e7.2.2) fun n11=>ck (c0-(1:Int)) fun n12=>ü c1 n12 fun e13=>ü e13 e7.2.1 fun e14=>ck (n11+e14) fun n15=>ifb (good n15) (ô (ì ((List.length v3)+(List.length ([v2])))) (ck (v1+e7.2.2) fun n16=>k0 (e7.2.1,n16,(v3++([v2]))))) (ck (v2+(1:Int)) fun n17=>kn v0 v1 n17 v3)) (ck (v2+(1:Int)) fun n18=>kn v0 v1 n18 v3)) (ck (v2+(1:Int)) fun n19=>kn v0 v1 n19 v3)) (k0 (v0,v1,v3))
theorem a1u {ρ:Type} (hS:adx L N) (good:Int→Bool) {rest:List (List Int)} {k:Nat} {x:List Int} (hr:rest[k]?=some x) (hk:k≤100) (hx:Lim 1000000000000000000 x) (hxl:x.length=N) {u sum:Int} (hs : -1000000000000000000≤sum∧sum≤1000000000000000000) {out:List Int} (ho:out.length≤1000)
 (K:Int×Int×List Int→Option ρ):Ñ (fun(v:Int×Int×Int×List Int) kk=>folL good ((k+1:Nat):Int) rest L (Ü L) v.1 v.2.1 v.2.2.1 v.2.2.2 (fun a b c d=>kk (a,b,c,d)) K) (u,sum,(0:Int),out) =
  match aF7 L x good u sum with|some i=>K ((L[i]?.getD (0,0,0)).2.1,sum+(L[i]?.getD (0,0,0)).2.2,out++[(i:Int)])|none=>K (u,sum,out):=by
 have hl3:=hS.len
 refine ő (fun v=>∃i:Nat,i≤L.length∧v=(u,sum,(i:Int),out)∧∀j l,j<i→L[j]?=some l→(l.1==u&&(decide (gv x l.2.1≠ade)&&good (sum+l.2.2+gv x l.2.1)))=false) (fun v=>L.length-v.2.2.1.toNat) ?_ ⟨0,by omega,rfl,fun j l h=>by omega⟩
 rintro v ⟨i,hi,rfl,hp⟩
 have e0:(((k+1:Nat):Int)-1)=(k:Int):=by omega
 rcases Nat.lt_or_ge i L.length with h2|h2
 ·have hl:L[i]?=some L[i]:=List.getElem?_eq_getElem h2
  generalize L[i]=l at hl
  have hm:=List.mem_of_getElem? hl
  have h1:=hS.inr l hm
  have h4:=hS.most l hm
  have hstep:(l.1==u&&(decide (gv x l.2.1≠ade)&&good (sum+l.2.2+gv x l.2.1)))=false→∃y,(∃i:Nat,i≤L.length∧y=(u,sum,(i:Int),out)∧∀j l,j<i→L[j]?=some l→(l.1==u&&(decide (gv x l.2.1≠ade)&&good (sum+l.2.2+gv x l.2.1)))=false)∧(L.length-y.2.2.1.toNat<L.length-((u,sum,(i:Int),out):Int×Int×Int×List Int).2.2.1.toNat)∧y=(u,sum,(i:Int)+1,out):=fun hf =>
   ⟨_,⟨i+1,h2,by rw[show((i+1:Nat):Int)=(i:Int)+1 by push_cast; rfl],fun j m hj hm=>by
    rcases Nat.lt_succ_iff_lt_or_eq.1 hj with h|rfl
    ·exact hp j m h hm
    ·rw[hl] at hm; cases hm; exact hf⟩,by simp; omega,rfl⟩
  by_cases hf:(l.1==u&&(decide (gv x l.2.1≠ade)&&good (sum+l.2.2+gv x l.2.1)))=true
  ·refine .inl fun kn=>?_
   have hfi:aF7 L x good u sum=some i:=by
    unfold aF7
    rw[List.findIdx?_eq_some_iff_getElem]
    obtain⟨hh,rfl⟩:=List.getElem?_eq_some_iff.1 hl
    exact⟨h2,hf,fun j hj=>by have:=hp j _ hj (List.getElem?_eq_getElem (by omega)); rw[this]; simp⟩
   rw[hfi]
   simp only[Bool.and_eq_true,beq_iff_eq,decide_eq_true_eq] at hf
   have h5:=hx _ hf.2.1
   dsimp only
   unfold folL
   rw[Ô h2,É hl,Õ (by simp[hf.1]),e0,Û (by omega) (by omega),É hr,ao2 h1.2.1 (by omega),Õ (bne_iff_ne.2 hf.2.1),Û (by omega) (by omega),Û (by omega) (by omega),É hr,ao2 h1.2.1 (by omega),Û (by omega) (by omega),Õ hf.2.2,
    ī (Ù (by simp; omega)),Û (by omega) (by omega),hl]
   rfl
  ·have hf':=Bool.not_eq_true _▸hf
   obtain⟨y,hy1,hy2,rfl⟩:=hstep hf'
   refine .inr ⟨_,hy1,hy2,fun kn=>?_⟩
   dsimp only
   unfold folL
   rw[Ô h2,É hl,Ì h2 (by omega)]
   by_cases g1:l.1=u
   ·rw[Õ (by simp[g1]),e0,Û (by omega) (by omega),É hr,ao2 h1.2.1 (by omega)]
    by_cases g2:gv x l.2.1=ade
    ·rw[Ò (by rw[g2]; rfl)]
    ·have h5:=hx _ g2
     have g3:good (sum+l.2.2+gv x l.2.1)=false:=by simpa[g1,g2] using hf'
     rw[Õ (bne_iff_ne.2 g2),Û (by omega) (by omega),Û (by omega) (by omega),É hr,ao2 h1.2.1 (by omega),Û (by omega) (by omega),Ò g3]
   ·rw[Ò (by simpa using g1)]
 ·refine .inl fun kn=>?_
  obtain rfl:i=L.length:=by omega
  have hfi:aF7 L x good u sum=none:=by
   unfold aF7
   rw[List.findIdx?_eq_none_iff]
   intro l hl
   obtain⟨j,hj,rfl⟩:=List.mem_iff_getElem.1 hl
   exact hp j _ hj (List.getElem?_eq_getElem hj)
  rw[hfi]
  dsimp only
  unfold folL
  rw[Ý]
def a1t {ρ:Type} (good:Int→Bool) (c0:List (List Int)) (c6:List Lk) (v0:Int) (v1:Int) (v2:Int) (v3:List Int) (kn:Int→Int→Int→List Int→Option ρ) (k0:List Int→Option ρ):Option ρ :=
 ifb (igt v1 (0:Int)) (Ñ (fun(v22:Int×Int×Int×List Int) kk27=>folL good v1 c0 c6 (Ü c6) v22.1 v22.2.1 v22.2.2.1 v22.2.2.2 (fun u23 u24 u25 u26=>kk27 (u23,u24,u25,u26)) (fun z20=>ck (v1-(1:Int)) fun n21=>kn z20.1 n21 z20.2.1 z20.2.2)) (v0,v2,(0:Int),v3)) (k0 v3)
theorem aZ3 {ρ:Type} (c0:List (List Int)) (c4:Int) (c6:List Lk):@ajw ρ c0 c4 c6=a1t (fun n=>ieq n c4) c0 c6:=rfl
theorem a1s {ρ:Type} (hS:adx L N) (good:Int→Bool) {rest:List (List Int)} {R:Nat→List Int} {k0:Nat} (hk:k0≤100) (hr:∀k,k<k0→rest[k]?=some (R k)) (hx:∀k,k<k0→Lim 900000000000000000 (R k)∧(R k).length=N) (u:Int) (K:List Int→Option ρ) :
 Ñ (fun(v:Int×Int×Int×List Int) kk=>a1t good rest L v.1 v.2.1 v.2.2.1 v.2.2.2 (fun a b c d=>kk (a,b,c,d)) K) (u,(k0:Int),(0:Int),[])=K (akf L R good k0 u 0 []):=by
 have key:=aio (f:=fun(v:Int×Int×Int×List Int) kk=>a1t good rest L v.1 v.2.1 v.2.2.1 v.2.2.2 (fun a b c d=>kk (a,b,c,d)) K) (F:=fun v=>K (akf L R good v.2.1.toNat v.1 v.2.2.1 v.2.2.2))
  (fun v=>∃k:Nat,v.2.1=k∧k≤k0∧(-(((k0-k:Nat):Int)*4503599627370496)≤v.2.2.1∧v.2.2.1≤((k0-k:Nat):Int)*4503599627370496)∧v.2.2.2.length≤k0-k) (fun v=>v.2.1.toNat) (fun v hv kn hk=>?_) (x:=(u,(k0:Int),0,[])) ⟨k0,rfl,Nat.le_refl _,by simp,by simp⟩
 ·rw[key]; simp
 ·obtain⟨u,k',sum,out⟩:=v
  obtain⟨k,e,h1,h2,h3⟩:=hv
  dsimp only at e h2 h3 hk ⊢
  subst e
  rw[Int.toNat_natCast] at hk ⊢
  unfold a1t
  cases k with
  | zero =>
    rw[Ò (by rfl)]
    rfl
  | succ k =>
    rw[Õ (decide_eq_true (by omega))]
    have hh:=hx k (by omega)
    have hlim:Lim 1000000000000000000 (R k):=fun v hv=>by have:=hh.1 v hv; omega
    refine(a1u hS good (hr k (by omega)) (by omega) hlim hh.2 (by omega) (by omega) _).trans ?_
    unfold akf
    have e0:(((k+1:Nat):Int)-1)=(k:Int):=by omega
    cases hn:aF7 L (R k) good u sum with
    | none =>
      dsimp only
      rw[e0,Û (by omega) (by omega),hk _ ⟨k,rfl,by omega,by dsimp only; omega,by dsimp only; omega⟩ (by simp)]
      simp
    | some i =>
      have hi:i<L.length:=by
       unfold aF7 at hn
       exact(List.findIdx?_eq_some_iff_getElem.1 hn).1
      have hl:L[i]?=some L[i]:=List.getElem?_eq_getElem hi
      have h4:=hS.most L[i] (List.getElem_mem _)
      dsimp only
      rw[hl]
      simp only[Option.getD_some]
      rw[e0,Û (by omega) (by omega),hk _ ⟨k,rfl,by omega,by dsimp only; omega,by simp; omega⟩ (by simp)]
      simp
def aFX (L:List Lk) (N:Nat) (u v:Int):List Int×Int :=
 if (adb L N u v).2≠0 then([],(adb L N u v).2) else
 match (ahg L N v N).findIdx? (fun x=>gv x u==(adb L N u v).1) with
 |some k=>(akf L (exL L N v) (fun n=>ieq n (adb L N u v).1) k u 0 [],0)
 |none=>([],0)
theorem aUs (hS:adx L N) {u v:Int} (hu:0≤u∧u<N) (hv:0≤v∧v<N):apc ((N:Int),L) u v=some (aFX L N u v):=by
 have hN:=hS.n60
 unfold apc aEe aFX
 rw[aBO hS hu hv,À]
 by_cases h:(adb L N u v).2=0
 ·rw[Ò (by rw[h]; rfl),if_neg (by simp[h]),aZL hS hv (by omega),À]
  rw[aZ3]
  let k0:Int→Option (List Int×Int):=fun j=>Ñ (fun(v29:Int×Int×Int×List Int) kk34=>a1t (fun n=>ieq n (adb L N u v).1) (ahg L N v N) L v29.1 v29.2.1 v29.2.2.1 v29.2.2.2 (fun u30 u31 u32 u33=>kk34 (u30,u31,u32,u33)) (fun z28=>some ((z28,(0:Int)):List Int×Int))) (u,j,(0:Int),[])
  refine(π (ahg L N v N) (fun x=>gv x u==(adb L N u v).1) k0 (k0 (-1)) (fun i x hi hx kn=>?_) (fun kn=>?_)).trans ?_
  rotate_left
  ·try dsimp only
   unfold ajx
   rw[Ý]
  ·have hex:∀k,k<N+1→(ahg L N v N)[k]?=some (exL L N v k):=fun k hk=>ayx (by omega)
   have hlim:∀k,k<N+1→Lim 900000000000000000 (exL L N v k)∧(exL L N v k).length=N:=fun k hk=>⟨fun w hw=>by
    have:=aSc hS hv k (by omega) w hw; omega,aSn _ _⟩
   cases hf:(ahg L N v N).findIdx? (fun x=>gv x u==(adb L N u v).1) with
   | none =>
     have:=aio (f:=fun(v29:Int×Int×Int×List Int) kk34=>a1t (fun n=>ieq n (adb L N u v).1) (ahg L N v N) L v29.1 v29.2.1 v29.2.2.1 v29.2.2.2 (fun u30 u31 u32 u33=>kk34 (u30,u31,u32,u33)) (fun z28=>some ((z28,(0:Int)):List Int×Int))) (F:=fun _=>some (([],0):List Int×Int)) (fun v=>v.2.1 = -1∧v.2.2.2=[]) (fun _=>0) (fun x hx kn hk=>by
      unfold a1t
      rw[hx.1,hx.2]
      rfl) (x:=(u,(-1:Int),(0:Int),[])) ⟨rfl,rfl⟩
     exact this
   | some k =>
     have hk:=(List.findIdx?_eq_some_iff_getElem.1 hf).1
     rw[ae9] at hk
     exact a1s hS _ (R:=exL L N v) (by omega) (fun j hj=>hex j (by omega)) (fun j hj=>hlim j (by omega)) u (fun z=>some ((z,(0:Int)):List Int×Int))
  ·try dsimp only
   unfold ajx
   have hxl:x.length=N:=by
    have hi':=hi
    rw[ae9] at hi'
    rw[ayx (by omega)] at hx
    cases hx
    exact aSn _ _
   rw[ae9] at hi
   rw[â,ae9,Õ (decide_eq_true (by omega)),É hx,ao2 hu.1 (by omega),Û (by omega) (by omega),ď]
 ·rw[Õ (bne_iff_ne.2 h),if_pos h]
end
end Go.Proofs.ZzM
end
noncomputable section
namespace Go.Proofs.ZzM
open Go Go.Am
def aWf (f:Int→Int→Int) (z:Int) (l:List Int) (d:Int):Int:=match l with|[]=>z|x::_=>f x d
def awu (f:Int→Int→Int) (z:Int) (c:Cmp):Int:=aWf f z (æ c.2.2.1 c.2.2.2.1) c.2.1-aWf f z (æ c.2.2.2.1 c.2.2.1) c.2.1
structure a1Z (b:á) (f:Int→Int→Int) (z:Int) (g:ç):Prop where
 hi:f g.1 g.2.1≤z+(g.2.2.1+g.2.2.2.1.2)
 lo:z+(g.2.2.1+g.2.2.2.1.1)≤f g.1 g.2.1
 down:∀d e,g.2.1≤d→d≤e→f g.1 e≤f g.1 d
 loss:∀d e,g.2.1≤d→d≤e→f g.1 d≤f g.1 e+adE b g d e
structure aYX (b:á) (f:Int→Int→Int) (z:Int):Prop where
 gauge:∀g∈b.2.1,a1Z b f z g
 cmp:∀c∈b.2.2.2.2.1,(ž b c).1≤awu f z c∧awu f z c≤(ž b c).2
theorem aQc {b:á} (h:ğ b) {p:Int→Int} (hg:∀g∈b.2.1,aiK b p g):∃f:Int→Int→Int,(∀g∈b.2.1,a1Z b f (p 0) g)∧∀g∈b.2.1,∀d∈ß b g,f g.1 d=p (ŵ b g.1 d):=by
 let f:Int→Int→Int:=fun id d=>match Ŝ b id with|some g=>fill b p g d|none=>0
 have hfv:∀g∈b.2.1,∀d,f g.1 d=fill b p g d:=fun g hgm d=>by
  show(match Ŝ b g.1 with|some g=>fill b p g d|none=>0)=_
  rw[amq h.ids hgm]
 refine⟨f,fun g hgm=>?_,fun g hgm d hd=>by rw[hfv g hgm]; exact aBB h hgm (hg g hgm) hd⟩
 have gf:=hg g hgm
 have e0:f g.1 g.2.1=p (ŵ b g.1 g.2.1):=by rw[hfv g hgm]; exact aBB h hgm gf (aeN g)
 refine⟨by rw[e0]; exact gf.hi,by rw[e0]; exact gf.lo,fun d e h0 hde=>?_,fun d e h0 hde=>?_⟩
 ·rw[hfv g hgm,hfv g hgm]
  exact(awd h hgm gf h0 hde).1
 ·rw[hfv g hgm,hfv g hgm]
  exact(awd h hgm gf h0 hde).2
theorem aNz {b:á} {f:Int→Int→Int} {p:Int→Int} (hm:∀g∈b.2.1,∀d∈ß b g,f g.1 d=p (ŵ b g.1 d)) {l:List Int} {day:Int} (hl:∀x∈l,∃g∈b.2.1,g.1=x∧day∈ß b g):p (aBd b l day)=aWf f (p 0) l day:=by
 cases l with
 |nil=>rfl
 | cons x t =>
   obtain⟨g,q1,rfl,q3⟩:=hl x (by simp)
   exact(hm g q1 day q3).symm
theorem aFm {b:á} {f:Int→Int→Int} {p:Int→Int} (hm:∀g∈b.2.1,∀d∈ß b g,f g.1 d=p (ŵ b g.1 d)) {c:Cmp}
 (hl:∀x,x∈æ c.2.2.1 c.2.2.2.1∨x∈æ c.2.2.2.1 c.2.2.1→∃g∈b.2.1,g.1=x∧c.2.1∈ß b g):p (cx b c)-p (cy b c)=awu f (p 0) c:=by
 unfold awu
 rw[ayD,ayC,aNz hm (fun x hx=>hl x (.inl hx)),aNz hm (fun x hx=>hl x (.inr hx))]
theorem aIk {b:á} (h:ğ b) (f:Int→Int→Int) (z:Int) {l:List Int} {day:Int} (hl:∀x∈l,∃g∈b.2.1,g.1=x∧day∈ß b g):aIl b f z (aBd b l day)=aWf f z l day:=by
 rw[ayM h f z hl]
 unfold aWf
 cases l<;>rfl
theorem aB8 {b:á} (h:ğ b) {f:Int→Int→Int} {z:Int} {c:Cmp} (hl:∀x,x∈æ c.2.2.1 c.2.2.2.1∨x∈æ c.2.2.2.1 c.2.2.1→∃g∈b.2.1,g.1=x∧c.2.1∈ß b g):aIl b f z (cx b c)-aIl b f z (cy b c)=awu f z c:=by
 unfold awu
 rw[ayD,ayC,aIk h f z (fun x hx=>hl x (.inl hx)),aIk h f z (fun x hx=>hl x (.inr hx))]
theorem aIj {b:á} (h:ğ b) {f:Int→Int→Int} {z:Int} {g:ç} (hg:g∈b.2.1) (hh:a1Z b f z g):aiK b (aIl b f z) g:=by
 have q:∀d∈ß b g,aIl b f z (ŵ b g.1 d)=f g.1 d:=fun d hd=>atx h f z hg hd
 have e0:=q g.2.1 (aeN g)
 refine⟨?_,?_,fun d e hd he hde=>?_,fun d e hd he hde=>?_⟩
 ·rw[e0,ah1]; exact hh.hi
 ·rw[e0,ah1]; exact hh.lo
 ·rw[q d hd,q e he]; exact hh.down d e (h.day hg hd).1 hde
 ·rw[q d hd,q e he]; exact hh.loss d e (h.day hg hd).1 hde
section
variable {b:á} {c:Cmp}
theorem aZg (h:ğ b) {p:Int→Int} (hp:Pot (Ú b) p):∃f,aYX b f (p 0)∧∀g∈b.2.1,∀d∈ß b g,f g.1 d=p (ŵ b g.1 d):=by
 obtain⟨hg,hc⟩:=(aJV h).1 hp
 obtain⟨f,hf,hm⟩:=aQc h hg
 refine⟨f,⟨hf,fun c hcm=>?_⟩,hm⟩
 have:=aFm hm (c:=c) (fun x hx=>ahz h hcm hx)
 have:=hc c hcm
 omega
theorem aZE (h:ğ b) {f:Int→Int→Int} {z:Int} (hh:aYX b f z):Pot (Ú b) (aIl b f z):=by
 refine(aJV h).2 ⟨fun g hg=>aIj h hg (hh.gauge g hg),fun c hc=>?_⟩
 have:=aB8 (f:=f) (z:=z) h (c:=c) (fun x hx=>ahz h hc hx)
 have:=hh.cmp c hc
 omega
theorem aTZ (h:ğ b) {d:Cmp} (hd:d∈b.2.2.2.2.1):∀x,x∈æ d.2.2.1 d.2.2.2.1∨x∈æ d.2.2.2.1 d.2.2.1→∃g∈(è b c).2.1,g.1=x∧d.2.1∈ß (è b c) g:=by
 intro x hx
 obtain⟨g,q1,q2,q3⟩:=ahz h hd hx
 exact⟨g,q1,q2,alo q3⟩
theorem aXo (h:ğ b) (h':ğ (è b c)) {p:Int→Int} (hp:Pot (õ (è b c)) p):∃f,aYX b f (p 0)∧p (cx (è b c) c)-p (cy (è b c) c)=awu f (p 0) c:=by
 obtain⟨hg,hc⟩:=(aBA h').1 hp
 obtain⟨f,hf,hm⟩:=aQc h' hg
 refine⟨f,⟨fun g hgm=>?_,fun d hd=>?_⟩,aFm hm fun x hx=>ahz h' apE hx⟩
 ·have:=hf g hgm
  exact⟨this.hi,this.lo,this.down,this.loss⟩
 ·have:=aFm hm (c:=d) (aTZ h hd)
  have:=hc d hd
  omega
theorem aXn (h:ğ b) (h':ğ (è b c)) {f:Int→Int→Int} {z:Int} (hh:aYX b f z):Pot (õ (è b c)) (aIl (è b c) f z)∧aIl (è b c) f z (cx (è b c) c)-aIl (è b c) f z (cy (è b c) c)=awu f z c:=by
 refine⟨(aBA h').2 ⟨fun g hg=>aIj h' hg ?_,fun d hd=>?_⟩,aB8 h' fun x hx=>ahz h' apE hx⟩
 ·have:=hh.gauge g hg
  exact⟨this.hi,this.lo,this.down,this.loss⟩
 ·have:=aB8 (f:=f) (z:=z) h' (c:=d) (aTZ h hd)
  have:=hh.cmp d hd
  omega
theorem aOg (h:ğ b):œ (Ú b) ((Ï b).length+1)=true↔∃f z,aYX b f z:=by
 have:=h.sys.n60
 rw[adB h.sys.links (by omega)]
 constructor
 ·rintro⟨p,hp⟩
  obtain⟨f,hf,_⟩:=aZg h hp
  exact⟨f,_,hf⟩
 ·rintro⟨f,z,hh⟩
  exact⟨_,aZE h hh⟩
theorem d_max (h:ğ b) (h':ğ (è b c)) {f:Int→Int→Int} {z:Int} (hh:aYX b f z):dLo b c≤awu f z c∧awu f z c≤dHi b c:=by
 have ho:œ (õ (è b c)) ((Ï (è b c)).length+1)=true:=by rw[air h h']; exact(aOg h).2 ⟨f,z,hh⟩
 obtain⟨hp,hd⟩:=aXn h h' hh
 have a1:=aMJ (aee h') (aey h') ho (arR h') (arQ h') hp
 have a2:=aMJ (aee h') (aey h') ho (arQ h') (arR h') hp
 unfold dLo dHi
 omega
theorem d_all (h:ğ b) (h':ğ (è b c)) (ho:œ (Ú b) ((Ï b).length+1)=true) {t:Int} (h1:dLo b c≤t) (h2:t≤dHi b c):∃f z,aYX b f z∧awu f z c=t:=by
 rw[←air h h'] at ho
 obtain⟨p,hp,hd⟩:=a1A (aee h') (aey h') ho (arR h') (arQ h') h1 h2
 obtain⟨f,hf,he⟩:=aXo h h' hp
 exact⟨f,_,hf,by rw[←he]; exact hd⟩
theorem a1B (h:ğ b) (h':ğ (è b c)) (ho:œ (Ú b) ((Ï b).length+1)=true):dLo b c≤dHi b c:=by
 rw[←air h h'] at ho
 exact aQg (aee h') (aey h') ho (arR h') (arQ h')
structure Pred (b:á) (c:Cmp) (s:Int×Int):Prop where
 good:ğ b
 good2:ğ (è b (Ë c))
 order:aSb b c≤atb b c
 has:∃f z,aYX b f z
 ends:s.1-aSb b c≤s.2-atb b c
 bd : -9007199254740992≤s.1-aSb b c∧s.2-atb b c≤9007199254740992
 all:∀f z,aYX b f z→s.1-aSb b c≤awu f z c∧awu f z c≤s.2-atb b c
 each:∀t,s.1-aSb b c≤t→t≤s.2-atb b c→∃f z,aYX b f z∧awu f z c=t
theorem aNK (hp:(Į b c).2=0):Pred b c (Į b c).1:=by
 obtain⟨h,h'⟩:=ahJ hp
 rw[aFU h h'] at hp ⊢
 by_cases ho:œ (Ú b) ((Ï b).length+1)=true
 ·rw[if_pos ho] at hp ⊢
  obtain⟨h1,h2⟩:=aQ2 hp
  rw[h2]
  have e1:aSb b (Ë c)=aSb b c:=rfl
  have e2:atb b (Ë c)=atb b c:=rfl
  rw[e1,e2] at *
  have s1:dLo b (Ë c)+aSb b c-aSb b c=dLo b (Ë c):=by omega
  have s2:dHi b (Ë c)+atb b c-atb b c=dHi b (Ë c):=by omega
  refine⟨h,h',h1,(aOg h).1 ho,?_,?_,fun f z hh=>?_,fun t t1 t2=>?_⟩
  ·simp only
   rw[s1,s2]
   exact a1B h h' ho
  ·simp only
   rw[s1,s2]
   rw[←air h h'] at ho
   have a1:=aTY (aee h') (aey h') ho (arR h') (arQ h')
   have a2:=aTY (aee h') (aey h') ho (arQ h') (arR h')
   unfold dLo dHi
   omega
  ·simp only
   rw[s1,s2]
   exact d_max (c:=Ë c) h h' hh
  ·simp only at t1 t2
   rw[s1] at t1
   rw[s2] at t2
   exact d_all (c:=Ë c) h h' ho t1 t2
 ·rw[if_neg ho] at hp
  simp at hp
end
end Go.Proofs.ZzM
end
noncomputable section
namespace Go.Proofs.ZzM
open Go Go.Am
theorem aJK {b:á} (h:ğ b):(ř b).length=(Ú b).length:=by
 have g0:∀i,((b.2.1.take i).mapIdx (ñ b)).flatten.length=((b.2.1.take i).flatMap (ó b)).length:=by
  intro i
  induction i with
  |zero=>simp
  | succ i ih =>
    rcases Nat.lt_or_ge i b.2.1.length with hi|hi
    ·have hg:b.2.1[i]?=some b.2.1[i]:=List.getElem?_eq_getElem hi
     rw[adp _ hg,take_succ hg,List.flatMap_append,List.flatten_append,List.length_append,List.length_append,ih]
     congr 1
     unfold ñ ó
     simp only[List.flatMap_cons,List.flatMap_nil,List.append_nil,List.flatten_cons,List.flatten_nil,List.length_append]
     rw[ŧ _ _ (fun _=>rfl),ŧ _ _ (fun _=>rfl)]
     rfl
    ·rw[List.take_of_length_le (by omega)] at ih ⊢
     exact ih
 have c0:=aJx (b:=b) b.2.2.2.2.1.length (Nat.le_refl _)
 have g1:=g0 b.2.1.length
 rw[List.take_length] at c0 g1
 unfold ř Ú
 rw[List.length_append,List.length_append,g1,c0.1,c0.2]
theorem aPZ {b:á}:∀s∈(b.2.1.mapIdx (ñ b)).flatten,(s.1=1∨s.1=2)∧0≤s.2∧s.2<b.2.1.length:=by
 intro s hs
 obtain⟨l,hl,hm⟩:=List.mem_flatten.1 hs
 obtain⟨i,hi,rfl⟩:=List.mem_iff_getElem.1 hl
 rw[List.length_mapIdx] at hi
 rw[List.getElem_mapIdx] at hm
 unfold ñ at hm
 rcases List.mem_append.1 hm with h|h
 ·simp at h; subst h; exact⟨.inl rfl,by dsimp only; omega,by dsimp only; omega⟩
 ·obtain⟨_,_,h⟩:=List.mem_flatMap.1 h
  simp at h; subst h; exact⟨.inr rfl,by dsimp only; omega,by dsimp only; omega⟩
theorem aQj {l:List Cmp}:∀s∈(l.mapIdx fun i (_:Cmp)=>[((3:Int),(i:Int)),((3:Int),(i:Int))]).flatten,s.1=3∧0≤s.2∧s.2<l.length:=by
 intro s hs
 obtain⟨m,hl,hm⟩:=List.mem_flatten.1 hs
 obtain⟨i,hi,rfl⟩:=List.mem_iff_getElem.1 hl
 rw[List.length_mapIdx] at hi
 rw[List.getElem_mapIdx] at hm
 simp at hm; subst hm
 exact⟨rfl,by dsimp only; omega,by dsimp only; omega⟩
theorem aZr (b:á) (c:Cmp):∃S:List (Int×Int),ř (è b c)=S++[(3,(b.2.2.2.2.1.length:Int)),(3,(b.2.2.2.2.1.length:Int))]∧∀s∈S,¬(s.1=3∧s.2=(b.2.2.2.2.1.length:Int)):=by
 refine⟨((è b c).2.1.mapIdx (ñ (è b c))).flatten++(b.2.2.2.2.1.mapIdx fun i (_:Cmp)=>[((3:Int),(i:Int)),((3:Int),(i:Int))]).flatten,?_,fun s hs=>?_⟩
 ·unfold ř
  rw[show(è b c).2.2.2.2.1=b.2.2.2.2.1++[c] from rfl,List.mapIdx_append,List.flatten_append,List.append_assoc]
  simp
 ·rcases List.mem_append.1 hs with h|h
  ·have:=aPZ s h; omega
  ·have:=aQj s h; omega
theorem aI7 (b:á) (c:Cmp) (h:ğ (è b c)):Ú (è b c)=õ (è b c)++[(cy (è b c) c,cx (è b c) c,(ž (è b c) c).2),(cx (è b c) c,cy (è b c) c,-(ž (è b c) c).1)]:=by
 rw[aSi]
 unfold Ú
 rw[show(è b c).2.2.2.2.1=b.2.2.2.2.1++[c] from rfl,List.flatMap_append,List.append_assoc]
 simp[ā]
def a0E (b:á) (c:Cmp) (s t:Int):Int:=dst (õ (è b c)) ((Ï (è b c)).length+1) s t
abbrev End:Type:=Int×Int×Int
abbrev ayP:Type:=(Int×Int)×End×End
def endP (b:á) (c:Cmp) (s t:Int):End :=
 (a0E b c s t,a0E b c s (cy (è b c) c)+(ž b c).2+a0E b c (cx (è b c) c) t,a0E b c s (cx (è b c) c)-(ž b c).1+a0E b c (cy (è b c) c) t)
def worth0:ayP:=((0,0),(0,0,0),(0,0,0))
def aNh (b:á) (n:Int×Int) (c:Cmp):ayP :=
 ((Į b c).1,endP b (Ë c) 0 (ak7 (è b (Ë c)) n.1 n.2),endP b (Ë c) (ak7 (è b (Ë c)) n.1 n.2) 0)
def aMu (b:á) (n:Int×Int) (c:Cmp):ayP×Int:=if (Į b c).2≠0 then(worth0,(Į b c).2) else(aNh b n c,0)
theorem ay0 {b:á} {c:Cmp} (h:(Į b c).2=0):œ (Ú b) ((Ï b).length+1)=true:=by
 obtain⟨g1,g2⟩:=ahJ h
 rw[aFU g1 g2] at h
 by_cases ho:œ (Ú b) ((Ï b).length+1)=true
 ·exact ho
 ·rw[if_neg ho] at h; cases h
section
variable {b:á} {c:Cmp} (h:ğ b) (h':ğ (è b c)) (ho:œ (Ú b) ((Ï b).length+1)=true)
include h h' ho
theorem ake {s t:Int} (hs:0≤s∧s<((Ï (è b c)).length+1:Nat)) (ht:0≤t∧t<((Ï (è b c)).length+1:Nat)) : -9007199254740992≤a0E b c s t∧a0E b c s t≤9007199254740992 :=
 aTY (aee h') (aey h') (by rw[air h h']; exact ho) hs ht
theorem ak8 (B:á) {s t:Int} (hs:0≤s∧s<((Ï (è b c)).length+1:Nat)) (ht:0≤t∧t<((Ï (è b c)).length+1:Nat)):Ą (B,(((Ï (è b c)).length:Int)+1,õ (è b c))) t s=some (a0E b c s t):=by
 rw[show(((Ï (è b c)).length:Int)+1)=(((Ï (è b c)).length+1:Nat):Int) by push_cast; rfl,aQA (aee h') ht hs,aqk (aee h') (aey h') hs ht,if_pos (by rw[air h h']; exact ho)]
 rfl
theorem aWi:(-4503599627370496≤(ž b c).1∧(ž b c).1≤4503599627370496)∧(-4503599627370496≤(ž b c).2∧(ž b c).2≤4503599627370496):=by
 have hs:=h'.sys
 have e:=aI7 b c h'
 have m1:=hs.most (cy (è b c) c,cx (è b c) c,(ž (è b c) c).2) (by rw[e]; simp)
 have m2:=hs.most (cx (è b c) c,cy (è b c) c,-(ž (è b c) c).1) (by rw[e]; simp)
 have e2:ž (è b c) c=ž b c:=rfl
 rw[e2] at m1 m2
 dsimp only at m1 m2
 omega
theorem aTW (B:á) {s t:Int} (hs:0≤s∧s<((Ï (è b c)).length+1:Nat)) (ht:0≤t∧t<((Ï (è b c)).length+1:Nat)) :
 agR t s (B,(((Ï (è b c)).length:Int)+1,õ (è b c))) (cy (è b c) c) (ž b c) (cx (è b c) c)=some (endP b c s t):=by
 have hx:=arR h'
 have hy:=arQ h'
 have b1:=ake h h' ho hs ht
 have b2:=ake h h' ho hs hy
 have b3:=ake h h' ho hx ht
 have b4:=ake h h' ho hs hx
 have b5:=ake h h' ho hy ht
 have b6:=aWi h h' ho
 unfold agR aon
 rw[ak8 h h' ho B hs ht,À,ak8 h h' ho B hs hy,À,Û (by omega) (by omega),ak8 h h' ho B hx ht,À,Û (by omega) (by omega),ak8 h h' ho B hs hx,À,Û (by omega) (by omega),ak8 h h' ho B hy ht,À,Û (by omega) (by omega)]
 rfl
end
theorem aNM {B:á} (h:ğ B) (hn:∀g∈B.2.1,I64 g.2.2.2.2.1.1) (s:Sys) (l:List Int) (c:Cmp):agS l (B,s) c=some (atP (Ï B) l c.2.1):=by
 unfold agS aoo
 cases l with
 |nil=>rw[â]; rfl
 | cons x t =>
   rw[â,Ò (beq_eq_false_iff_ne.2 (by simp; omega)),show(0:Int)=((0:Nat):Int) from rfl,É (show(x::t)[0]?=some x from rfl),aFL h hn,À]
   rfl
theorem aXs {ρ:Type} {b:á} {c:Cmp} (h:ğ (è b c)) (K:List Lk→Option ρ) :
 Ñ (fun(v17:Val Í) kk20=>aft (b.2.2.2.2.1.length:Int) (ř (è b c)) (Ú (è b c)) (Ü (Ú (è b c))) v17.1 v17.2 (fun u18 u19=>kk20 (u18,u19)) K) ((0:Int),[])=K (õ (è b c)):=by
 have hl3:=h.sys.len
 have hsl:=aJK h
 obtain⟨S,hS,hSk⟩:=aZr b c
 have hL:=aI7 b c h
 have hSl:S.length=(õ (è b c)).length:=by
  rw[hS,hL,List.length_append,List.length_append] at hsl
  simpa using hsl
 generalize õ (è b c)=H at hL hSl ⊢
 rw[hS]
 generalize Ú (è b c)=L at hL hsl hl3 ⊢
 have hLl:L.length=H.length+2:=by rw[hL]; simp
 refine ù L (fun i=>(L.take i).take H.length) _ (by simp) (fun i l hi hl kn=>?_) (fun kn=>?_)
 ·try dsimp only
  unfold aft
  rw[Ô hi,É hl]
  rcases Nat.lt_or_ge i H.length with h1|h1
  ·have hs:(S++[((3:Int),(b.2.2.2.2.1.length:Int)),(3,(b.2.2.2.2.1.length:Int))])[i]?=some S[i]:=by
    rw[List.getElem?_append_left (by omega),List.getElem?_eq_getElem]
   have hk:=hSk S[i] (List.getElem_mem _)
   have e:((û (S[i]).1 (3:Int))&&((û (S[i]).2 (b.2.2.2.2.1.length:Int))&&true))=false:=by
    simp[û]; omega
   have e1:(L.take i).take H.length=L.take i:=List.take_of_length_le (by rw[List.length_take]; omega)
   have e2:(L.take (i+1)).take H.length=L.take (i+1):=List.take_of_length_le (by rw[List.length_take]; omega)
   rw[É hs,e,Õ (by rfl),e1,e2,ī (Ù (by rw[List.length_take]; simp; omega)),Ì hi (by omega),take_succ hl]
  ·have hs:(S++[((3:Int),(b.2.2.2.2.1.length:Int)),(3,(b.2.2.2.2.1.length:Int))])[i]?=some ((3:Int),(b.2.2.2.2.1.length:Int)):=by
    rw[List.getElem?_append_right (by omega)]
    have:i-S.length=0∨i-S.length=1:=by omega
    rcases this with e|e<;>rw[e]<;>rfl
   have e:((û (3:Int) (3:Int))&&((û (b.2.2.2.2.1.length:Int) (b.2.2.2.2.1.length:Int))&&true))=true:=by simp[û]
   have e1:(L.take i).take H.length=(L.take (i+1)).take H.length:=by
    rw[List.take_take,List.take_take]
    congr 1
    omega
   rw[É hs]
   dsimp only
   rw[e,Ò (by rfl),Ì hi (by omega),e1]
 ·try dsimp only
  unfold aft
  rw[Ý,List.take_length,hL]
  simp
theorem aPP {B:á} (hr:Room B) (n:Int×Int) {c:Cmp} (hA:c.2.2.1.length≤1000) (hB:c.2.2.2.1.length≤1000):alf (B,aIa B) n c=some (aMu B n c):=by
 unfold alf axA aMu
 have hs:=hr.good.size
 rw[show(B,aIa B).1=B from rfl,aVP hs hr.num hA hB,À]
 by_cases hp:(Į B c).2=0
 ·obtain⟨g1,g2⟩:=ahJ hp
  have ho:=ay0 hp
  have e1:apr B (Ë c)=(è B (Ë c),0):=by
   unfold apr
   rw[if_neg (by simp[(ð B).2 g1]),if_neg (by simp[(ð _).2 g2])]
  have hn2:∀g∈(è B (Ë c)).2.1,I64 g.2.2.2.2.1.1:=hr.num
  have hC:=g2.nC
  have hw:(((è B (Ë c)).2.2.2.2.1.length:Int)-1)=(B.2.2.2.2.1.length:Int):=by simp[è]
  have hSays:a0o (è B (Ë c)) (B.2.2.2.2.1.length:Int)=(ž B (Ë c),0):=by
   have e:akn (è B (Ë c)) (B.2.2.2.2.1.length:Int)=(Ë c,0):=by
    unfold akn
    rw[if_neg (by simp[(ð _).2 g2]),if_neg (by simp[è]; omega)]
    simp[è]
   unfold a0o
   rw[e,if_neg (by simp)]
   rfl
  have hCancel:aFY c.2.2.1 c.2.2.2.1=(æ c.2.2.1 c.2.2.2.1,æ c.2.2.2.1 c.2.2.1,0):=by
   have hnu:=(Α _).1 (g2.nums (apE (c:=Ë c)))
   have h6:afI c.2.2.1=true∧afI c.2.2.2.1=true:=⟨hnu.2.2.2.2.2.1,hnu.2.2.2.2.2.2⟩
   unfold aFY
   rw[h6.1,h6.2]
   rfl
  rw[Ò (by rw[hp]; rfl),if_neg (by simp[hp]),show ahF B (c.1,c.2.1,c.2.2.1,c.2.2.2.1,(0:Int),c.2.2.2.2.2)=ahF B (Ë c) from rfl,aYx hs hr.num (c:=Ë c) hA hB,À,e1]
  dsimp only
  rw[Ò (by rfl),â,hw,Û (by omega) (by omega),a1P (g2.inn hn2),À,hSays,aQQ (by omega) (by omega),À,hCancel,aiJ (g2.inn hn2),À,ad3 g2]
  dsimp only
  refine(aXs g2 _).trans ?_
  have ex:cx (è B (Ë c)) (Ë c)=atP (Ï (è B (Ë c))) (æ c.2.2.1 c.2.2.2.1) c.2.1:=rfl
  have ey:cy (è B (Ë c)) (Ë c)=atP (Ï (è B (Ë c))) (æ c.2.2.2.1 c.2.2.1) c.2.1:=rfl
  rw[aNM g2 hn2,À,aNM g2 hn2,À,aFL g2 hn2,À,←ex,←ey,aTW g1 g2 ho _ (adL _) (υ _ n),À,aTW g1 g2 ho _ (υ _ n) (adL _),À]
  rfl
 ·rw[Õ (bne_iff_ne.2 hp),if_pos hp]
  rfl
end Go.Proofs.ZzM
end
noncomputable section
namespace Go.Proofs.ZzM
open Go Go.Am
abbrev aUt:Type:=á×(Int×Int)×Bool×Int×List Int
def aXT:aUt:=(akm,(0,0),false,0,[])
def ajO (L:List Lk):Int→Int→List Int→Int×Int×Bool
 |u,s,[]=>(u,s,true)
 |u,s,i::t=>if (L[i.toNat]?.getD (0,0,0)).1=u then ajO L (L[i.toNat]?.getD (0,0,0)).2.1 (s+(L[i.toNat]?.getD (0,0,0)).2.2) t else(0,0,false)
def ad2 (L:List Lk) (i:Int):Bool:=decide (i<0)||decide ((L.length:Int)≤i)
def ε (L:List Lk) (l:List Int):Int:=if 80<l.length then 2 else if l.any (ad2 L) then 1 else 0
def Ĉ (L:List Lk) (u v:Int) (l:List Int):Int×Int :=
 if ε L l≠0 then(0,ε L l) else if (ajO L u 0 l).2.2=true∧(ajO L u 0 l).1=v then((ajO L u 0 l).2.1,0) else(0,8)
def aT1 (u:Int) (w:Int×Int×Bool):Int:=if w.2.2=true∧w.1=u∧w.2.1<0 then 0 else 8
def Ű (L:List Lk) (l:List Int):Int :=
 if ε L l≠0 then ε L l else match l with
 |[]=>8
 |i::_=>aT1 (L[i.toNat]?.getD (0,0,0)).1 (ajO L (L[i.toNat]?.getD (0,0,0)).1 0 l)
section
variable {L:List Lk} {N:Nat}
theorem aJd (N:Int) (hL:L.length≤1000) (l:List Int):aiC (N,L) l=some (ε L l):=by
 unfold aiC asS ε
 dsimp only
 rw[â]
 by_cases h:80<l.length
 ·rw[Õ (decide_eq_true (by omega)),if_pos h]
 ·rw[Ò (decide_eq_false (by omega)),if_neg h,←â l]
  refine(ģ l (ad2 L) (fun z=>ifb (ige z 0) (some 1) (some 0)) (some 1) (some 0) (fun j=>by rw[show ige (j:Int) 0=true from decide_eq_true (by omega)]; rfl) (fun i a hi ha kn=>?_) (fun kn=>?_)).trans ?_
  ·try dsimp only
   unfold agr ad2
   rw[Ô hi,É ha,Ì hi (by omega),â,ď,ď]
   by_cases h1:a<0
   ·simp[ilt,h1]
   ·by_cases h2:(L.length:Int)≤a
    ·simp[ilt,ige,h1,h2]
    ·simp[ilt,ige,h1,h2]
  ·try dsimp only
   unfold agr
   rw[Ý]
  ·cases l.any (ad2 L)<;>rfl
theorem aSh {l:List Int} (h:ε L l=0):l.length≤80∧∀i∈l,0≤i∧i.toNat<L.length:=by
 unfold ε at h
 split at h
 ·omega
 ·rename_i h1
  split at h
  ·omega
  ·rename_i h2
   refine⟨by omega,fun i hi=>?_⟩
   have:=List.any_eq_false.1 (Bool.eq_false_iff.2 h2) i hi
   simp[ad2] at this
   omega
theorem aV2 (hS:adx L N) (u:Int) {l:List Int} (h:ε L l=0):awp ((N:Int),L) u l=some (ajO L u 0 l):=by
 obtain⟨hl,hi⟩:=aSh h
 unfold awp aLC
 dsimp only
 have:=aio (f:=fun(v7:Int×Int×Int) kk11=>alY l (Ü l) L v7.1 v7.2.1 v7.2.2 (fun u8 u9 u10=>kk11 (u8,u9,u10)) (fun z5=>some (z5.1,z5.2.1,z5.2.2)) (fun z6=>some (z6.1,z6.2,true)))
  (F:=fun v=>some (ajO L v.1 v.2.1 (l.drop v.2.2.toNat))) (fun v=>∃i:Nat,v.2.2=i∧i≤l.length∧(-(i*4503599627370496)≤v.2.1∧v.2.1≤i*4503599627370496)) (fun v=>l.length-v.2.2.toNat) (fun v hv kn hk=>?_) (x:=(u,(0:Int),(0:Int))) ⟨0,rfl,by omega,by simp⟩
 ·exact this
 ·obtain⟨w,s,n⟩:=v
  obtain⟨i,e,h1,h2⟩:=hv
  dsimp only at e h2 hk ⊢
  subst e
  rw[Int.toNat_natCast] at hk ⊢
  unfold alY
  rcases Nat.lt_or_ge i l.length with h3|h3
  ·have ha:l[i]?=some l[i]:=List.getElem?_eq_getElem h3
   have hd:l.drop i=l[i]::l.drop (i+1):=List.drop_eq_getElem_cons h3
   rw[hd]
   have hx:=hi l[i] (List.getElem_mem _)
   generalize l[i]=a at ha hx
   have hg:L[a.toNat]?=some L[a.toNat]:=List.getElem?_eq_getElem hx.2
   have hm:=hS.most _ (List.mem_of_getElem? hg)
   generalize L[a.toNat]=x at hg hm
   rw[Ô h3,É ha,aed hx.1 hg]
   unfold ajO
   rw[hg]
   simp only[Option.getD_some]
   by_cases hc:x.1=w
   ·rw[Ò (by rw[hc]; exact bne_self_eq_false' _),if_pos hc,Û (by omega) (by omega),Ì h3 (by omega),hk _ ⟨i+1,by push_cast; rfl,h3,by dsimp only; push_cast; omega⟩ (by simp; omega)]
    simp
   ·rw[Õ (bne_iff_ne.2 hc),if_neg hc]
  ·obtain rfl:i=l.length:=by omega
   rw[Ý,List.drop_length]
   rfl
theorem aQW (hS:adx L N):∀(l:List Int) (u s B:Int),-B≤s∧s≤B→-(B+l.length*4503599627370496)≤(ajO L u s l).2.1∧(ajO L u s l).2.1≤B+l.length*4503599627370496
 |[],u,s,B,h=>by simp[ajO]; omega
 | i :: t, u, s, B, h => by
   unfold ajO
   have hm : -4503599627370496≤(L[i.toNat]?.getD (0,0,0)).2.2∧(L[i.toNat]?.getD (0,0,0)).2.2≤4503599627370496:=by
    cases hg:L[i.toNat]? with
    |none=>simp
    |some x=>exact hS.most x (List.mem_of_getElem? hg)
   split
   ·have:=aQW hS t (L[i.toNat]?.getD (0,0,0)).2.1 (s+(L[i.toNat]?.getD (0,0,0)).2.2) (B+4503599627370496) (by omega)
    rw[List.length_cons]
    push_cast
    omega
   ·dsimp only
    omega
theorem awM (hS:adx L N) {u v:Int} (hu:0≤u∧u<N) (hv:0≤v∧v<N) (l:List Int):aeB ((N:Int),L) u v l=some (Ĉ L u v l):=by
 have hl3:=hS.len
 unfold aeB aj9 Ĉ
 have e1:(decide (0≤u)&&decide (u<(N:Int)))=true:=by simp[hu.1,hu.2]
 have e2:(decide (0≤v)&&decide (v<(N:Int)))=true:=by simp[hv.1,hv.2]
 rw[afH hS,À,Ò (by rfl),aCp,À,e1,Ò (by rfl),aCp,À,e2,Ò (by rfl),aJd _ (by omega),À]
 by_cases h:ε L l=0
 ·rw[Ò (by rw[h]; rfl),if_neg (by simp[h]),aV2 hS u h,À]
  cases h1:(ajO L u 0 l).2.2 with
  |false=>rw[Õ (by rfl),if_neg (by simp)]
  | true =>
    rw[Ò (by rfl)]
    by_cases h2:(ajO L u 0 l).1=v
    ·rw[Ò (by rw[h2]; exact bne_self_eq_false' _),if_pos ⟨rfl,h2⟩]
    ·rw[Õ (bne_iff_ne.2 h2),if_neg (fun h=>h2 h.2)]
 ·rw[Õ (bne_iff_ne.2 h),if_pos h]
theorem aPW {ρ α:Type} (x:α) (t:List α) (f:α→Option ρ):ü (x::t) (0:Int) f=f x:=rfl
theorem aH6 (hS:adx L N) (l:List Int):agu ((N:Int),L) l=some (Ű L l):=by
 have hl3:=hS.len
 unfold agu aj8 Ű
 rw[afH hS,À,Ò (by rfl),aJd _ (by omega),À]
 by_cases h:ε L l=0
 ·rw[Ò (by rw[h]; rfl),if_neg (by simp[h])]
  cases l with
  |nil=>rw[â]; rfl
  | cons i t =>
    have hx:=(aSh h).2 i (by simp)
    have hg:L[i.toNat]?=some L[i.toNat]:=List.getElem?_eq_getElem hx.2
    generalize L[i.toNat]=x at hg
    rw[â,Ò (beq_eq_false_iff_ne.2 (by simp; omega)),aPW,aed hx.1 hg,aV2 hS x.1 h,À]
    dsimp only
    rw[hg]
    dsimp only[Option.getD_some]
    generalize ajO L x.1 0 (i::t)=w
    obtain⟨e,sum,ok⟩:=w
    unfold aT1
    dsimp only
    cases ok with
    |false=>rw[Õ (by rfl),if_neg (by simp)]
    | true =>
      rw[Ò (by rfl)]
      by_cases h2:e=x.1
      ·rw[Ò (by rw[h2]; exact bne_self_eq_false' _)]
       by_cases h3:sum<0
       ·rw[Ò (decide_eq_false (by omega)),if_pos ⟨rfl,h2,h3⟩]
       ·rw[Õ (decide_eq_true (by omega)),if_neg (fun h=>h3 h.2.2)]
      ·rw[Õ (bne_iff_ne.2 h2),if_neg (fun h=>h2 h.2.1)]
 ·rw[Õ (bne_iff_ne.2 h),if_pos h]
end
def aek (c:aUt):Int :=
 if à c.1≠0 then à c.1 else if ak7 c.1 c.2.1.1 c.2.1.2=0 then 5 else
 if c.2.2.1 then(if Ĉ (Ú c.1) 0 (ak7 c.1 c.2.1.1 c.2.1.2) c.2.2.2.2=(c.2.2.2.1,0) then 0 else 8)
 else(if Ĉ (Ú c.1) (ak7 c.1 c.2.1.1 c.2.1.2) 0 c.2.2.2.2=(-c.2.2.2.1,0) then 0 else 8)
def ad5 (c:aUt):Int :=
 if à c.1≠0 then à c.1 else if c.2.1≠(0,0)∨c.2.2.1=true∨c.2.2.2.1≠0 then 1 else if Ű (Ú c.1) c.2.2.2.2=0 then 0 else 8
def Ν (b:á) (c:aUt):Bool×Int :=
 if à b≠0 then(false,à b) else
 if c.2.1=(0,0) then(if ad5 c≠0 then(false,ad5 c) else(aF6 c.1 b,0)) else(if aek c≠0 then(false,aek c) else(aF6 c.1 b,0))
theorem wr_neg {n:Int} (h:I64 n):a0T (0-n)=if n = -9223372036854775808 then n else -n:=by
 have e:a0T (0-n)=if (0-n) % 18446744073709551616≥9223372036854775808 then(0-n) % 18446744073709551616-18446744073709551616 else(0-n) % 18446744073709551616:=by
  simp[a0T,IntKind.wrap,IntKind.bits,IntKind.signed]
 rw[e]
 unfold I64 at h
 split<;>split<;>omega
theorem aAd {c:aUt} (hI:In c.1) (hv:I64 c.2.2.2.1):afC c=some (aek c):=by
 unfold afC alV aek
 rw[η hI.size hI.num,À]
 by_cases hc:à c.1=0
 ·have hg:=(ð c.1).1 hc
  rw[Ò (by simp[ine,hc]),if_neg (show ¬(à c.1≠0) from fun h=>h hc),aFW hI,À,atk hg,aiJ hI,À,ad3 hg]
  dsimp only
  by_cases h0:ak7 c.1 c.2.1.1 c.2.1.2=0
  ·rw[if_pos h0,if_pos h0]; rfl
  ·have hN:=hg.sys
   have hr:=υ c.1 c.2.1
   have hz:=adL c.1
   rw[if_neg h0,if_neg h0,Ò (by rfl),show(((Ï c.1).length:Int)+1)=(((Ï c.1).length+1:Nat):Int) by push_cast; rfl]
   dsimp only
   rw[show(∀f:Int→Option Int,ck (0-c.2.2.2.1) f=f (a0T (0-c.2.2.2.1))) from fun f=>rfl,wr_neg hv]
   have key:∀(u v:Int) (t t':Int),(t'=t∨(t' = -9223372036854775808∧t=9223372036854775808))→(ifb (ine (Ĉ (Ú c.1) u v c.2.2.2.2).2 0) (some (8:Int)) (ifb (ine (Ĉ (Ú c.1) u v c.2.2.2.2).1 t') (some 8) (some 0)))=some (if Ĉ (Ú c.1) u v c.2.2.2.2=(t,0) then 0 else 8):=by
    intro u v t t' ht
    have hb : -9000000000000000000≤(Ĉ (Ú c.1) u v c.2.2.2.2).1∧(Ĉ (Ú c.1) u v c.2.2.2.2).1≤9000000000000000000:=by
     unfold Ĉ
     split
     ·simp
     ·rename_i hi
      split
      ·have:=aQW hN c.2.2.2.2 u 0 0 (by simp)
       have:=(aSh (by simpa using hi)).1
       dsimp only
       omega
      ·simp
    generalize Ĉ (Ú c.1) u v c.2.2.2.2=p at hb ⊢
    by_cases h2:p.2=0
    ·rw[Ò (by rw[h2]; rfl)]
     by_cases h1:p.1=t'
     ·have:p=(t,0):=Prod.ext (by rcases ht with h|h<;>omega) h2
      rw[Ò (by rw[h1]; exact bne_self_eq_false' _),if_pos this]
     ·have:¬p=(t,0):=fun e=>by
       have e1:p.1=t:=by rw[e]
       rcases ht with h|h<;>omega
      rw[Õ (bne_iff_ne.2 h1),if_neg this]
    ·have:¬p=(t,0):=fun e=>h2 (by rw[e])
     rw[Õ (bne_iff_ne.2 h2),if_neg this]
   unfold I64 at hv
   cases c.2.2.1 with
   | true =>
     rw[Ġ,awM hN hz hr,À,key _ _ _ _ (.inl rfl)]
     rfl
   | false =>
     rw[ã,awM hN hr hz,À,key _ _ (-c.2.2.2.1) _ (by split<;>omega)]
     rfl
 ·rw[Õ (by simp[ine,hc]),if_pos hc]
theorem aNe {c:aUt} (hI:In c.1):agt c=some (ad5 c):=by
 unfold agt aj1 ad5
 rw[η hI.size hI.num,À]
 by_cases hc:à c.1=0
 ·have hg:=(ð c.1).1 hc
  rw[Ò (by simp[ine,hc]),if_neg (show ¬(à c.1≠0) from fun h=>h hc)]
  by_cases h1:c.2.1=(0,0)
  ·have e1:(!((û c.2.1.1 0)&&((û c.2.1.2 0)&&true)))=false:=by rw[h1]; rfl
   rw[e1,ã]
   cases h2:c.2.2.1 with
   |true=>rw[Ġ,if_pos (.inr (.inl rfl))]
   | false =>
     rw[ã]
     by_cases h3:c.2.2.2.1=0
     ·rw[Ò (by rw[h3]; rfl),if_neg (by simp[h1,h3]),aiJ hI,À,ad3 hg,show(((Ï c.1).length:Int)+1)=(((Ï c.1).length+1:Nat):Int) by push_cast; rfl]
      dsimp only
      rw[aH6 hg.sys,À]
      by_cases h4:Ű (Ú c.1) c.2.2.2.2=0
      ·rw[Ò (by rw[h4]; rfl),if_pos h4]
      ·rw[Õ (bne_iff_ne.2 h4),if_neg h4]
     ·rw[Õ (bne_iff_ne.2 h3),if_pos (.inr (.inr h3))]
  ·have e1:(!((û c.2.1.1 0)&&((û c.2.1.2 0)&&true)))=true:=by
    rw[Prod.ext_iff] at h1
    simp[û]
    dsimp only at h1
    omega
   rw[e1,Ġ,if_pos (.inl h1)]
 ·rw[Õ (by simp[ine,hc]),if_pos hc]
theorem aQG {b:á} {c:aUt} (hb:In b) (hI:In c.1) (hv:I64 c.2.2.2.1):alh b c=some (Ν b c):=by
 unfold alh axF Ν
 rw[η hb.size hb.num,À]
 by_cases hc:à b=0
 ·rw[Ò (by simp[ine,hc]),if_neg (show ¬(à b≠0) from fun h=>h hc)]
  by_cases h1:c.2.1=(0,0)
  ·have e1:((û c.2.1.1 0)&&((û c.2.1.2 0)&&true))=true:=by rw[h1]; rfl
   rw[e1,Ġ,if_pos h1,aNe hI,À]
   by_cases h2:ad5 c=0
   ·rw[Ò (by rw[h2]; rfl),if_neg (by simp[h2]),part_ok hI.size hb.size,À]
   ·rw[Õ (bne_iff_ne.2 h2),if_pos h2]
  ·have e1:((û c.2.1.1 0)&&((û c.2.1.2 0)&&true))=false:=by
    rw[Prod.ext_iff] at h1
    simp[û]
    dsimp only at h1
    omega
   rw[e1,ã,if_neg h1,aAd hI hv,À]
   by_cases h2:aek c=0
   ·rw[Ò (by rw[h2]; rfl),if_neg (by simp[h2]),part_ok hI.size hb.size,À]
   ·rw[Õ (bne_iff_ne.2 h2),if_pos h2]
 ·rw[Õ (by simp[ine,hc]),if_pos hc]
end Go.Proofs.ZzM
end
noncomputable section
namespace Go.Proofs.ZzM
open Go Go.Am
theorem apt (n lo hi:Int):afy n lo hi=some (inP n lo hi):=by
 unfold afy aRt inP ige ile
 cases h:decide (lo≤n)<;>simp_all
theorem aNb (n:Int):amx n=some (awN n):=by
 unfold amx aKQ
 rw[apt]; rfl
theorem amM (s:Int×Int) (lo hi:Int):ad0 s lo hi=some (aer s lo hi):=by
 unfold ad0 anV aer ile
 cases decide (lo≤s.1)<;>cases decide (s.1≤s.2)<;>rfl
theorem a1R {l:List Int} (hn:l.length≤1000000) (x:Int):aBC l x=some (l.contains x):=by
 unfold aBC aKN
 refine Eq.trans (ģ l (fun a=>a==x) (fun _=>some true) (some true) (some false) (fun _=>rfl) (fun i a hi ha kn=>?_) (fun kn=>?_)) ?_
 ·try dsimp only
  unfold alH
  rw[Ô hi,É ha,Ì hi (by omega),ď]
 ·try dsimp only
  unfold alH
  rw[Ý]
 ·have:l.any (fun a=>a==x)=l.contains x:=by
   rw[Bool.eq_iff_iff,List.any_eq_true,List.contains_iff_mem]
   constructor
   ·rintro⟨a,ha,e⟩; rw[←eq_of_beq e]; exact ha
   ·intro h; exact⟨x,h,by simp⟩
  rw[this]
  cases l.contains x<;>rfl
theorem aU5 {a b:List Int} {i:Nat} {x:Int} (h:a[i]?=some x):æ (a.take (i+1)) b=æ (a.take i) b++if b.contains x then[] else[x]:=by
 rw[take_succ h,æ,æ,List.filter_append]
 congr 1
 cases hx:b.contains x<;>simp only[List.filter_cons,hx,Bool.not_true,Bool.not_false,Bool.false_eq_true,if_false,if_true,List.filter_nil]
theorem aNa {a b:List Int} (ha:a.length≤1000000) (hb:b.length≤1000000):aez a b=some (æ a b):=by
 unfold aez aDb
 refine ù a (fun i=>æ (a.take i) b) _ rfl (fun i x hi hx kn=>?_) (fun kn=>?_)
 ·try dsimp only
  unfold ajc
  have hl:(æ (a.take i) b).length≤1000000:=by
   have:=ao0 (a.take i) b
   rw[List.length_take] at this
   omega
  rw[Ô hi,É hx,a1R hb,À,aU5 hx]
  cases b.contains x with
  |true=>rw[Ò (by rfl),Ì hi (by omega)]; simp
  |false=>rw[Õ (by rfl),É hx,Ù (by simp only[List.length_singleton]; omega),Am.iff_true,Ì hi (by omega)]; simp
 ·try dsimp only
  unfold ajc
  rw[Ý,List.take_length]
def aAk (a b:List Int):Int:=(æ a b).head?.getD 0
theorem ayR {a b:List Int} (ha:a.length≤1000000) (hb:b.length≤1000000):ahC a b=some (aAk a b):=by
 unfold ahC aKu aAk
 rw[aNa ha hb,À,â]
 cases h:æ a b with
 |nil=>rfl
 | cons x t =>
   rw[Ò (by simp[ieq]; omega)]
   exact É (i:=0) rfl _
theorem aBM {b:á} (hn:b.2.1.length≤1000000) (id:Int):aix b id=some (match b.2.1.findIdx? (fun g=>g.1==id) with|some j=>(j:Int)|none=>-1):=by
 unfold aix aDg
 refine Eq.trans (π b.2.1 (fun g=>g.1==id) (fun z=>some z) (some (-1)) (fun i a hi ha kn=>?_) (fun kn=>?_)) ?_
 ·try dsimp only
  unfold ajd
  rw[Ô hi,É ha,Ì hi (by omega),ď]
 ·try dsimp only
  unfold ajd
  rw[Ý]
 ·cases List.findIdx? (fun g:ç=>g.1==id) b.2.1<;>rfl
theorem apT {b:á} {id:Int}:(∃j g,b.2.1.findIdx? (fun g=>g.1==id)=some j∧b.2.1[j]?=some g∧Ŝ b id=some g)∨(b.2.1.findIdx? (fun g=>g.1==id)=none∧Ŝ b id=none):=by
 unfold Ŝ
 rw[aMC]
 cases h:b.2.1.findIdx? (fun g=>g.1==id) with
 |none=>exact .inr ⟨rfl,rfl⟩
 | some j =>
   obtain⟨hj,_,_⟩:=List.findIdx?_eq_some_iff_getElem.1 h
   exact .inl ⟨j,_,rfl,List.getElem?_eq_getElem hj,List.getElem?_eq_getElem hj⟩
def Ο (b:á) (id day:Int):Int:=match Ŝ b id with|some g=>if day<g.2.1 then 4 else 0|none=>5
theorem awG {b:á} (hn:b.2.1.length≤1000000) (id day:Int):agd b id day=some (Ο b id day):=by
 unfold agd axi Ο
 rw[aBM hn,À]
 rcases apT (b:=b) (id:=id) with⟨j,g,h1,h2,h3⟩|⟨h1,h2⟩
 ·rw[h1,h3]
  try dsimp only
  rw[Ò (by simp[ilt]),É h2,ď]
  by_cases hd:day<g.2.1
  ·rw[if_pos (by simpa[ilt] using hd),if_pos hd]
  ·rw[if_neg (by simpa[ilt] using hd),if_neg hd]
 ·rw[h1,h2]
  rfl
theorem ar0 {b:á} (hi:b.2.1.Pairwise fun a b=>a.1<b.1) (id day:Int):Ο b id day=agA (adl b) id day:=by
 unfold Ο agA
 rw[apF hi]
 cases Ŝ b id<;>rfl
theorem aUo {b:á} (hn:b.2.2.2.1.length≤1000000) (id day:Int):ao8 b id day=some (match afF b id day with|some l=>(l,true)|none=>((0,(0,0),0),false)):=by
 unfold ao8 aC9
 refine aW3 b.2.2.2.1 (fun _=>((0:Int),(0:Int),(0:Int),(0:Int))) _ (fun i=>∀l∈b.2.2.2.1.take i,(l.1==id&&inP day l.2.1.1 l.2.1.2)=false) rfl (by simp) (fun i a hi ha hP kn=>?_) (fun hP kn=>?_)
 ·try dsimp only
  unfold ajb
  rw[Ô hi,É ha]
  by_cases hm:(a.1==id&&inP day a.2.1.1 a.2.1.2)=true
  ·refine .inl ?_
   have hm2:=hm
   simp only[inP,Bool.and_eq_true,beq_iff_eq,decide_eq_true_eq] at hm2
   rw[Õ (by simp[ieq,hm2.1]),Õ (by simp[ile,hm2.2.1]),Õ (by simp[ile,hm2.2.2])]
   have hf:afF b id day=some a:=by
    unfold afF
    obtain⟨hi',rfl⟩:=List.getElem?_eq_some_iff.1 ha
    rw[List.find?_eq_some_iff_getElem]
    refine⟨hm,i,hi',rfl,fun j hj=>?_⟩
    have:=hP b.2.2.2.1[j] (List.mem_iff_getElem.2 ⟨j,by rw[List.length_take]; omega,by rw[List.getElem_take]⟩)
    simp[this]
   rw[hf]
  ·refine .inr ⟨fun l hl=>?_,?_⟩
   ·rw[take_succ ha,List.mem_append,List.mem_singleton] at hl
    rcases hl with hl|rfl
    ·exact hP l hl
    ·simpa using hm
   ·have hm2:=hm
    simp only[inP,Bool.and_eq_true,beq_iff_eq,decide_eq_true_eq] at hm2
    by_cases h1:a.1=id
    ·by_cases h2:a.2.1.1≤day
     ·rw[Õ (by simp[ieq,h1]),Õ (by simp[ile,h2]),Ò (by simp[ile]; exact Int.lt_of_not_ge fun h3=>hm2 ⟨h1,h2,h3⟩),Ì hi (by omega)]
     ·rw[Õ (by simp[ieq,h1]),Ò (by simp[ile]; omega),Ì hi (by omega)]
    ·rw[Ò (by simp[ieq,h1]),Ì hi (by omega)]
 ·try dsimp only
  unfold ajb
  rw[Ý]
  have:afF b id day=none:=by
   unfold afF
   rw[List.find?_eq_none]
   intro l hl
   have:=hP l (by rw[List.take_length]; exact hl)
   simp[this]
  rw[this]
theorem a0t {b:á} (hn:b.2.2.1.length≤1000000) (id day:Int):awh b id day=some (aAf b id day):=by
 unfold awh aCU
 refine Eq.trans (ģ b.2.2.1 (fun u=>u.1==id&&u.2==day) (fun _=>some true) (some true) (some false) (fun _=>rfl) (fun i a hi ha kn=>?_) (fun kn=>?_)) ?_
 ·try dsimp only
  unfold ai8
  rw[Ô hi,É ha,É ha,Ì hi (by omega)]
  cases h1:(a.1==id) with
  |false=>have:ieq a.1 id=false:=h1; simp[this]
  | true =>
    have:ieq a.1 id=true:=h1
    rw[this]
    cases h2:(a.2==day) with
    |false=>have:ieq a.2 day=false:=h2; simp[this]
    |true=>have:ieq a.2 day=true:=h2; simp[this]
 ·try dsimp only
  unfold ai8
  rw[Ý]
 ·unfold aAf
  cases b.2.2.1.any _<;>rfl
theorem aYH (a b:Nat):ap4 a b=some ((Nat.gcd a b:Nat):Int):=by
 unfold ap4 aK2
 refine ő (fun x:Int×Int=>∃c d:Nat,x=((c:Int),(d:Int))∧Nat.gcd c d=Nat.gcd a b) (fun x=>x.2.toNat) ?_ ⟨a,b,rfl,rfl⟩
 rintro x ⟨c,d,rfl,hg⟩
 cases d with
 | zero =>
   refine .inl fun kn=>?_
   rw[Nat.gcd_zero_right] at hg
   unfold alK
   simp[hg,ine]
 | succ d =>
   refine .inr ⟨(((d+1:Nat):Int),((c % (d+1):Nat):Int)),⟨d+1,c % (d+1),rfl,?_⟩,?_,fun kn=>?_⟩
   ·rw[←hg,Nat.gcd_comm c (d+1),Nat.gcd_rec (d+1) c,Nat.gcd_comm]
   ·have:=Nat.mod_lt c (Nat.succ_pos d)
    simp only[Int.toNat_natCast]
    omega
   ·unfold alK
    have h1:ine ((d+1:Nat):Int) 0=true:=by simp[ine]; omega
    have h2:û ((d+1:Nat):Int) 0=false:=by simp[û]; omega
    simp only[h1,Õ Ò h2]
    congr 1
theorem aYJ {n:Int} (h : -9223372036854775807≤n∧n≤9223372036854775807):awk n=some (n.natAbs:Int):=by
 unfold awk aK6
 by_cases hn:n<0
 ·rw[Õ (by simpa[ilt] using hn),Û (by omega) (by omega)]
  congr 1
  omega
 ·rw[Ò (by simpa[ilt] using hn)]
  congr 1
  omega
theorem aYD (r:Int×Int):ap2 r=some (ayZ r):=by
 unfold ap2 axr ayZ
 by_cases h1:1≤r.2
 ·rw[Ò (by simp[ilt]; omega)]
  by_cases h2:r.2≤2147483647
  ·rw[Ò (by simp[igt]; omega)]
   by_cases h3:r.1 < -2147483647
   ·rw[Õ (by simp[ilt]; omega)]
    have:¬((r.1.natAbs:Int)≤2147483647):=by omega
    simp[this]
   ·rw[Ò (by simp[ilt]; omega)]
    by_cases h4:2147483647<r.1
    ·rw[Õ (by simp[igt]; omega)]
     have:¬((r.1.natAbs:Int)≤2147483647):=by omega
     simp[this]
    ·rw[Ò (by simp[igt]; omega),aYJ ⟨by omega,by omega⟩,À]
     have h5:r.2=((r.2.natAbs:Nat):Int):=by omega
     have h6:((r.1.natAbs:Int)≤2147483647):=by omega
     rw[h5,aYH,À,←h5]
     congr 1
     rw[Bool.eq_iff_iff]
     simp only[ieq,beq_iff_eq,h1,h2,h6,decide_true,Bool.true_and,decide_eq_true_eq]
     omega
  ·rw[Õ (by simp[igt]; omega)]
   simp[h2]
 ·rw[Õ (by simp[ilt]; omega)]
  simp[h1]
theorem aYB (g:ç):apZ g=some (ais g):=by
 unfold apZ axg ais
 rw[aYD,apt,apt,aNb,apt,amM,apt]
 simp only[À]
 have e:igt g.2.2.2.2.1.2 100=!decide (g.2.2.2.2.1.2≤100):=by
  rw[Bool.eq_iff_iff]; simp[igt]
 rw[e]
 cases ayZ g.2.2.2.2.1<;>cases inP g.2.2.2.2.1.1 (-1000) 1000<;>cases decide (g.2.2.2.2.1.2≤100)<;>cases inP g.1 1 1099511627776<;>cases awN g.2.1<;>cases inP g.2.2.1 1 1125899906842624<;>cases aer g.2.2.2.1 (-1073741824) 1073741824<;>rfl
end Go.Proofs.ZzM
end
noncomputable section
namespace Go.Proofs.ZzM
open Go Go.Am
theorem aRe {l:List Int}:∀(m:List Int) (j:Nat) (x:Bool),ħ (anl l) j m=some x→x=false:=by
 intro m
 induction m with
 |nil=>intro j x h; cases h
 | cons a m ih =>
   intro j x h
   unfold ħ at h
   cases hp:anl l j a with
   |none=>rw[hp] at h; exact ih _ _ h
   | some y =>
     rw[hp] at h
     cases h
     unfold anl at hp
     split at hp
     ·cases hp; rfl
     ·split at hp
      ·cases hp; rfl
      ·cases hp
theorem aUn {l:List Int} (hn:l.length≤1000000):ao7 l=some (afI l):=by
 unfold ao7 aCZ
 refine Eq.trans (aec l (anl l) some (some (decide (l.length≤6))) (fun i a hi ha kn=>?_) (fun kn=>?_)) ?_
 ·try dsimp only
  unfold ai9
  rw[Ô hi,É ha,apt,À]
  unfold anl
  cases inP a 1 1099511627776 with
  |false=>rfl
  | true =>
    simp only[Bool.not_true,ã,Bool.false_eq_true,if_false]
    rcases Nat.eq_zero_or_pos i with h0|h0
    ·subst h0
     have:igt ((0:Nat):Int) 0=false:=by simp[igt]
     rw[Ò this,Ì hi (by omega)]
     simp[ati]
    ·obtain⟨q,hq⟩:=aty hi h0
     have h1:igt (i:Int) 0=true:=by simp[igt]; omega
     rw[Õ h1,É ha,aFr h0 (by omega),av7 h0 hq]
     simp only[ati,h0,decide_true,Bool.true_and,hq,Option.any_some]
     unfold ile
     cases h2:decide (a≤q) with
     |true=>rfl
     | false =>
       rw[ã,Ì hi (by omega)]
       rfl
 ·try dsimp only
  unfold ai9
  rw[Ý,â]
  simp[ile]
  omega
 ·unfold afI
  cases h:ħ (anl l) 0 l with
  |none=>rfl
  |some x=>rw[aRe _ _ _ h]
theorem aYz {c:Cmp} (hA:c.2.2.1.length≤1000000) (hB:c.2.2.2.1.length≤1000000):apX c=some (aAl c):=by
 unfold apX axd aAl
 rw[aUn hA,aUn hB,apt,aNb,apt,apt,amM]
 simp only[À]
 cases afI c.2.2.1<;>cases afI c.2.2.2.1<;>cases inP c.1 1 1099511627776<;>cases awN c.2.1<;>cases inP c.2.2.2.2.1 (-1125899906842624) 1125899906842624<;>cases inP c.2.2.2.2.2.1 0 1073741824<;>cases aer c.2.2.2.2.2.2 (-10000) 10000<;>rfl
def aNj (b:á) (u:Int×Int):Int:=if !awN u.2 then 1 else Ο b u.1 u.2
theorem aS4 {b:á} (hi:b.2.1.Pairwise fun a b=>a.1<b.1) (u:Int×Int):aNj b u=aVU (adl b) u.1 u.2:=by
 unfold aNj aVU
 rw[ar0 hi]
def aTU (e:Int):Option Int:=if e=0 then none else some e
theorem ayv {α:Type} (E:Nat→α→Int):∀(k:Nat) (l:List α),ħ (fun i a=>aTU (E i a)) k l=(l.mapIdx fun i a=>E (i+k) a).find? (fun e=>e != 0)
 |_,[]=>rfl
 | k, a :: t => by
   unfold ħ
   rw[ayv E (k+1) t,List.mapIdx_cons,List.find?_cons]
   unfold aTU
   by_cases h:E k a=0
   ·simp only[h,if_true,Nat.zero_add]
    have:((0:Int) != 0)=false:=rfl
    rw[this]
    have e:(fun(i:Nat) (a:α)=>E (i+(k+1)) a)=fun i a=>E (i+1+k) a:=by
     funext i a
     congr 1
     omega
    rw[e]
   ·simp only[h,if_false,Nat.zero_add]
    have:(E k a != 0)=true:=by simpa using h
    rw[this]
theorem aE7 {α:Type} (E:Nat→α→Int) (l:List α):ħ (fun i a=>aTU (E i a)) 0 l=(l.mapIdx E).find? (fun e=>e != 0):=ayv E 0 l
theorem aE8 {α:Type} (E:α→Int) (l:List α):ħ (fun _ a=>aTU (E a)) 0 l=(l.map E).find? (fun e=>e != 0):=by
 rw[ayv (fun _ a=>E a) 0 l]
 congr 1
 exact List.ext_getElem (by simp) fun i h1 h2=>by simp
theorem a0p {b:á} (hs:Ļ b):awf b=some (((b.2.2.1.map (aNj b)).find? (fun e=>e != 0)).getD 0):=by
 have h1:=hs.gauges
 have h2:=hs.uses
 unfold awf aCL
 refine Eq.trans (aec b.2.2.1 (fun _ u=>aTU (aNj b u)) some (some 0) (fun i a hi ha kn=>?_) (fun kn=>?_)) ?_
 ·try dsimp only
  unfold ai3
  rw[Ô hi,É ha,aNb,À]
  unfold aNj aTU
  cases awN a.2 with
  |false=>rfl
  | true =>
    rw[Ò (by rfl),É ha,É ha,awG (b:=((b.1.1,b.1.2),b.2.1,b.2.2.1,b.2.2.2.1,b.2.2.2.2.1,b.2.2.2.2.2)) (by simp only; omega),À,Ì hi (by omega)]
    have e:Ο ((b.1.1,b.1.2),b.2.1,b.2.2.1,b.2.2.2.1,b.2.2.2.2.1,b.2.2.2.2.2) a.1 a.2=Ο b a.1 a.2:=rfl
    rw[e]
    by_cases hz:Ο b a.1 a.2=0
    ·rw[Ò (by simp[ine,hz])]; simp[hz]
    ·rw[Õ (by simp[ine,hz])]; simp[hz]
 ·try dsimp only
  unfold ai3
  rw[Ý]
 ·rw[aE8]
  cases List.find? (fun e=>e != 0) (b.2.2.1.map (aNj b))<;>rfl
def aHU (b:á) (i:Nat) (l:aBf):Int :=
 if !aer l.2.1 0 20000 then 1 else if !inP l.2.2 0 1048576 then 1 else if Ο b l.1 l.2.1.1 != 0 then Ο b l.1 l.2.1.1 else
 if (b.2.2.2.1.take i).any (fun x=>x.1==l.1&&(decide (x.2.1.1≤l.2.1.2)&&decide (l.2.1.1≤x.2.1.2))) then 9 else
 if b.2.2.1.any (fun u=>u.1==l.1&&inP u.2 l.2.1.1 l.2.1.2) then 9 else 0
theorem aW9 {b:á} (hi:b.2.1.Pairwise fun a b=>a.1<b.1) (i:Nat) (l:aBf):aHU b i l=aHV b (adl b) i l:=by
 unfold aHU aHV
 rw[ar0 hi]
theorem aYA {b:á} (hs:Ļ b):apY b=some (((b.2.2.2.1.mapIdx (aHU b)).find? (fun e=>e != 0)).getD 0):=by
 have h1:=hs.gauges
 have h2:=hs.uses
 have h3:=hs.loans
 unfold apY axe
 refine Eq.trans (aec b.2.2.2.1 (fun i l=>aTU (aHU b i l)) some (some 0) (fun i l hi hl kn=>?_) (fun kn=>?_)) ?_
 ·try dsimp only
  unfold aho
  rw[Ô hi,É hl,amM,À]
  unfold aHU aTU
  cases aer l.2.1 0 20000 with
  |false=>rfl
  |true =>
  rw[Ò (by rfl),apt,À]
  cases inP l.2.2 0 1048576 with
  |false=>rfl
  |true =>
  rw[Ò (by rfl),awG (b:=((b.1.1,b.1.2),b.2.1,b.2.2.1,b.2.2.2.1,b.2.2.2.2.1,b.2.2.2.2.2)) (by simp only; omega),À]
  have e:Ο ((b.1.1,b.1.2),b.2.1,b.2.2.1,b.2.2.2.1,b.2.2.2.2.1,b.2.2.2.2.2) l.1 l.2.1.1=Ο b l.1 l.2.1.1:=rfl
  rw[e]
  by_cases hz:Ο b l.1 l.2.1.1=0
  ·rw[Ò (by simp[ine,hz])]
   have hl9:(b.2.2.2.1.take i).length=i:=by rw[List.length_take]; omega
   have inner:Ñ (fun(v21:Int) kk23=>afp b.2.2.1 l.1 l.2.1.1 l.2.1.2 v21 (fun u22=>kk23 u22) (fun z18=>(some z18:Option Int)) (fun _=>ck ((i:Int)+(1:Int)) fun n20=>kn n20)) (0:Int)=if b.2.2.1.any (fun u=>u.1==l.1&&inP u.2 l.2.1.1 l.2.1.2) then some 9 else kn ((i:Int)+1):=by
    refine ģ b.2.2.1 _ (fun _=>some 9) (some 9) (kn ((i:Int)+1)) (fun _=>rfl) (fun j a hj ha kn'=>?_) (fun kn'=>?_)
    ·try dsimp only
     unfold afp
     rw[Ô hj,É ha,É ha,apt,À,Ì hj (by omega)]
     cases hq:(a.1==l.1) with
     |false=>have:ieq a.1 l.1=false:=hq; simp[this]
     | true =>
       have:ieq a.1 l.1=true:=hq
       rw[this]
       cases inP a.2 l.2.1.1 l.2.1.2<;>simp
    ·try dsimp only
     unfold afp
     rw[Ý]
     dsimp only
     rw[Ì hi (by omega)]
   try dsimp only
   rw[inner]
   refine Eq.trans (ģ (b.2.2.2.1.take i) (fun x=>x.1==l.1&&(decide (x.2.1.1≤l.2.1.2)&&decide (l.2.1.1≤x.2.1.2))) (fun _=>some 9) (some 9) (if b.2.2.1.any (fun u=>u.1==l.1&&inP u.2 l.2.1.1 l.2.1.2) then some 9 else kn ((i:Int)+1)) (fun _=>rfl) (fun j a hj ha kn'=>?_) (fun kn'=>?_)) ?_
   ·try dsimp only
    unfold ahn
    rw[hl9] at hj
    have ha':b.2.2.2.1[j]?=some a:=by rwa [List.getElem?_take_of_lt hj] at ha
    rw[Õ (show ilt (j:Int) (i:Int)=true by simp[ilt]; omega),É ha',É ha',É ha',Ì hj (by omega)]
    cases hq:(a.1==l.1) with
    |false=>have:ieq a.1 l.1=false:=hq; simp[this]
    | true =>
      have:ieq a.1 l.1=true:=hq
      rw[this]
      cases h5:decide (a.2.1.1≤l.2.1.2)<;>cases h6:decide (l.2.1.1≤a.2.1.2)<;>simp[ile,h5,h6,ď]<;>simp_all
   ·try dsimp only
    unfold ahn
    rw[hl9,Ò (show ilt (i:Int) (i:Int)=false by simp[ilt])]
   ·simp only[hz]
    cases List.any (b.2.2.2.1.take i) _<;>cases b.2.2.1.any _<;>rfl
  ·rw[Õ (by simp[ine,hz])]; simp[hz]
 ·try dsimp only
  unfold aho
  rw[Ý]
 ·rw[aE7 (aHU b)]
  cases(b.2.2.2.1.mapIdx (aHU b)).find? (fun e=>e != 0)<;>rfl
def aqC (b:á) (c:Cmp):Int :=
 if (c.2.2.1++c.2.2.2.1).any (fun id=>Ο b id c.2.1==5) then 5 else
 if (c.2.2.1++c.2.2.2.1).any (fun id=>Ο b id c.2.1 != 0) then 4 else
 if (c.2.2.1++c.2.2.2.1).any (fun id=>(afF b id c.2.1).isSome) then 9 else
 if 1<(æ c.2.2.1 c.2.2.2.1).length then 1 else if 1<(æ c.2.2.2.1 c.2.2.1).length then 1 else
 if (æ c.2.2.1 c.2.2.2.1).length+(æ c.2.2.2.1 c.2.2.1).length=0 then 1 else 0
theorem aZh {b:á} (hi:b.2.1.Pairwise fun a b=>a.1<b.1) (c:Cmp):aqC b c=aqD b (adl b) c:=by
 unfold aqC aqD
 simp only[ar0 hi]
 by_cases h5:(c.2.2.1++c.2.2.2.1).any (fun id=>agA (adl b) id c.2.1==5)=true
 ·rw[if_pos h5,if_pos h5]
 ·rw[if_neg h5,if_neg h5]
  have e:(c.2.2.1++c.2.2.2.1).any (fun id=>agA (adl b) id c.2.1 != 0)=(c.2.2.1++c.2.2.2.1).any (fun id=>agA (adl b) id c.2.1==4):=by
   rw[Bool.eq_iff_iff,List.any_eq_true,List.any_eq_true]
   constructor
   ·rintro⟨x,hx,h⟩
    refine⟨x,hx,?_⟩
    rcases aCw (adl b) x c.2.1 with h1|h1|h1
    ·rw[h1] at h; cases h
    ·rw[h1]; rfl
    ·exact absurd (List.any_eq_true.2 ⟨x,hx,by rw[h1]; rfl⟩) h5
   ·rintro⟨x,hx,h⟩
    refine⟨x,hx,?_⟩
    rw[eq_of_beq h]; rfl
  rw[e]
theorem aQ1 {b:á} {id d:Int}:(Ο b id d==5)=(b.2.1.findIdx? (fun g=>g.1==id)).isNone:=by
 unfold Ο
 rcases apT (b:=b) (id:=id) with⟨j,g,h1,h2,h3⟩|⟨h1,h2⟩
 ·rw[h1,h3]
  try dsimp only
  split<;>rfl
 ·rw[h1,h2]; rfl
set_option maxHeartbeats 1000000 in
theorem aQI {b:á} (hs:Ļ b) {c:Cmp} (hA:c.2.2.1.length≤1000) (hB:c.2.2.2.1.length≤1000):aei b c=some (aqC b c):=by
 have h1:=hs.gauges
 have h3:=hs.loans
 unfold aei alD aqC
 rw[Ù (by omega),Am.iff_true,List.nil_append,Ù (by omega),Am.iff_true]
 have hl:(c.2.2.1++c.2.2.2.1).length≤2000:=by rw[List.length_append]; omega
 generalize hP:c.2.2.1++c.2.2.2.1=P at hl
 have hol:∀{i:Nat},i<P.length→((ile (0:Int) (i:Int))&&(ilt (i:Int) (Ĩ P)))=true:=fun {i} hi=>by simp[ile,ilt,Ĩ]; omega
 have third:Ñ (fun(v19:Int) kk21=>ŷ b.1.1 b.1.2 b.2.1 b.2.2.1 b.2.2.2.1 b.2.2.2.2.1 b.2.2.2.2.2 c.2.1 P v19 (fun u20=>kk21 u20) (fun z14=>some z14) (fun _=>Â (aez c.2.2.1 c.2.2.2.1) fun r16=>Â (aez c.2.2.2.1 c.2.2.1) fun r17=>ifb (igt (Ü r16) (1:Int)) (some (1:Int)) (ifb (igt (Ü r17) (1:Int)) (some (1:Int)) (ck ((Ü r16)+(Ü r17)) fun n18=>ifb (ieq n18 (0:Int)) (some (1:Int)) (some (0:Int)))))) (0:Int) =
  some (if P.any (fun id=>(afF b id c.2.1).isSome) then 9 else if 1<(æ c.2.2.1 c.2.2.2.1).length then 1 else if 1<(æ c.2.2.2.1 c.2.2.1).length then 1 else if (æ c.2.2.1 c.2.2.2.1).length+(æ c.2.2.2.1 c.2.2.1).length=0 then 1 else 0):=by
  refine Eq.trans (ģ P (fun id=>(afF b id c.2.1).isSome) (fun _=>some 9) (some 9) (some (if 1<(æ c.2.2.1 c.2.2.2.1).length then 1 else if 1<(æ c.2.2.2.1 c.2.2.1).length then 1 else if (æ c.2.2.1 c.2.2.2.1).length+(æ c.2.2.2.1 c.2.2.1).length=0 then 1 else 0)) (fun _=>rfl) (fun i a hi ha kn=>?_) (fun kn=>?_)) ?_
  ·try dsimp only
   unfold ŷ
   rw[Ô hi,ī (hol hi),Ĥ ha,aUo (b:=((b.1.1,b.1.2),b.2.1,b.2.2.1,b.2.2.2.1,b.2.2.2.2.1,b.2.2.2.2.2)) (by simp only; omega),À,Ì hi (by omega)]
   have e:afF ((b.1.1,b.1.2),b.2.1,b.2.2.1,b.2.2.2.1,b.2.2.2.2.1,b.2.2.2.2.2) a c.2.1=afF b a c.2.1:=rfl
   rw[e]
   cases afF b a c.2.1<;>rfl
  ·try dsimp only
   unfold ŷ
   rw[Ý]
   dsimp only
   have l1:=ao0 c.2.2.1 c.2.2.2.1
   have l2:=ao0 c.2.2.2.1 c.2.2.1
   rw[aNa (by omega) (by omega),À,aNa (by omega) (by omega),À]
   simp only[â]
   by_cases q1:1<(æ c.2.2.1 c.2.2.2.1).length
   ·rw[Õ (by simp[igt]; omega),if_pos q1]
   ·rw[Ò (by simp[igt]; omega),if_neg q1]
    by_cases q2:1<(æ c.2.2.2.1 c.2.2.1).length
    ·rw[Õ (by simp[igt]; omega),if_pos q2]
    ·rw[Ò (by simp[igt]; omega),if_neg q2,Û (by omega) (by omega)]
     by_cases q3:(æ c.2.2.1 c.2.2.2.1).length+(æ c.2.2.2.1 c.2.2.1).length=0
     ·rw[Õ (by simp[ieq]; omega),if_pos q3]
     ·rw[Ò (by simp[ieq]; omega),if_neg q3]
  ·cases P.any _<;>rfl
 have second:Ñ (fun(v22:Int) kk24=>adD b.1.1 b.1.2 b.2.1 b.2.2.1 b.2.2.2.1 b.2.2.2.2.1 b.2.2.2.2.2 c.2.1 P v22 (fun u23=>kk24 u23) (fun z9=>some z9) (fun _=>Ñ (fun(v19:Int) kk21=>ŷ b.1.1 b.1.2 b.2.1 b.2.2.1 b.2.2.2.1 b.2.2.2.2.1 b.2.2.2.2.2 c.2.1 P v19 (fun u20=>kk21 u20) (fun z14=>some z14) (fun _=>Â (aez c.2.2.1 c.2.2.2.1) fun r16=>Â (aez c.2.2.2.1 c.2.2.1) fun r17=>ifb (igt (Ü r16) (1:Int)) (some (1:Int)) (ifb (igt (Ü r17) (1:Int)) (some (1:Int)) (ck ((Ü r16)+(Ü r17)) fun n18=>ifb (ieq n18 (0:Int)) (some (1:Int)) (some (0:Int)))))) (0:Int))) (0:Int) =
  some (if P.any (fun id=>Ο b id c.2.1 != 0) then 4 else if P.any (fun id=>(afF b id c.2.1).isSome) then 9 else if 1<(æ c.2.2.1 c.2.2.2.1).length then 1 else if 1<(æ c.2.2.2.1 c.2.2.1).length then 1 else if (æ c.2.2.1 c.2.2.2.1).length+(æ c.2.2.2.1 c.2.2.1).length=0 then 1 else 0):=by
  rw[third]
  refine Eq.trans (ģ P (fun id=>Ο b id c.2.1 != 0) (fun _=>some 4) (some 4) (some (if P.any (fun id=>(afF b id c.2.1).isSome) then 9 else if 1<(æ c.2.2.1 c.2.2.2.1).length then 1 else if 1<(æ c.2.2.2.1 c.2.2.1).length then 1 else if (æ c.2.2.1 c.2.2.2.1).length+(æ c.2.2.2.1 c.2.2.1).length=0 then 1 else 0)) (fun _=>rfl) (fun i a hi ha kn=>?_) (fun kn=>?_)) ?_
  ·try dsimp only
   unfold adD
   rw[Ô hi,ī (hol hi),Ĥ ha,awG (b:=((b.1.1,b.1.2),b.2.1,b.2.2.1,b.2.2.2.1,b.2.2.2.2.1,b.2.2.2.2.2)) (by simp only; omega),À,Ì hi (by omega)]
   have e:Ο ((b.1.1,b.1.2),b.2.1,b.2.2.1,b.2.2.2.1,b.2.2.2.2.1,b.2.2.2.2.2) a c.2.1=Ο b a c.2.1:=rfl
   rw[e,ď]
  ·try dsimp only
   unfold adD
   rw[Ý]
  ·cases P.any (fun id=>Ο b id c.2.1 != 0)<;>rfl
 rw[second]
 refine Eq.trans (ģ P (fun id=>Ο b id c.2.1==5) (fun _=>some 5) (some 5) (some (if P.any (fun id=>Ο b id c.2.1 != 0) then 4 else if P.any (fun id=>(afF b id c.2.1).isSome) then 9 else if 1<(æ c.2.2.1 c.2.2.2.1).length then 1 else if 1<(æ c.2.2.2.1 c.2.2.1).length then 1 else if (æ c.2.2.1 c.2.2.2.1).length+(æ c.2.2.2.1 c.2.2.1).length=0 then 1 else 0)) (fun _=>rfl) (fun i a hi ha kn=>?_) (fun kn=>?_)) ?_
 ·try dsimp only
  unfold aeH
  rw[Ô hi,ī (hol hi),Ĥ ha,aBM (b:=((b.1.1,b.1.2),b.2.1,b.2.2.1,b.2.2.2.1,b.2.2.2.2.1,b.2.2.2.2.2)) (by simp only; omega),À,Ì hi (by omega),aQ1]
  try dsimp only
  cases List.findIdx? (fun g:ç=>g.1==a) b.2.1 with
  |none=>rfl
  | some j =>
    have:ilt (j:Int) 0=false:=by simp[ilt]
    rw[Ò this]; rfl
 ·try dsimp only
  unfold aeH
  rw[Ý]
 ·cases P.any (fun id=>Ο b id c.2.1==5)<;>rfl
end Go.Proofs.ZzM
end
noncomputable section
namespace Go.Proofs.ZzM
open Go Go.Am
structure Pre (b:á):Prop where
 size:Ļ b
 gauge:∀g∈b.2.1,ais g=true
 cmp:∀c∈b.2.2.2.2.1,awN c.2.1=true∧(æ c.2.2.1 c.2.2.2.1).length≤1∧(æ c.2.2.2.1 c.2.2.1).length≤1
 look:∀n∈b.2.2.2.2.2,awN n.2=true
theorem aOh {c:Cmp} (h:aAl c=true):awN c.2.1=true:=by
 have:=((Α c).1 h).2.1
 simp[awN,inP,this.1,this.2]
theorem ğ.pre {b:á} (h:ğ b):Pre b :=
 ⟨h.size,h.gauge,fun c hc=>⟨aOh (h.nums hc),(h.lefts hc).1,(h.lefts hc).2.1⟩,fun n hn=>(by have:=(aNk h (h.looks n hn)).1; simp[awN,inP,this.1,this.2])⟩
theorem aKc {a b:List Int} (h:(æ a b).length≤1) {id:Int} (h0:id≠0):aAk a b=id↔id∈a∧id∉b:=by
 rw[←aex]
 unfold aAk
 cases hl:æ a b with
 | nil =>
   simp only[List.head?_nil,Option.getD_none,List.not_mem_nil,iff_false]
   exact fun e=>h0 e.symm
 | cons x t =>
   have:t=[]:=by
    rw[hl] at h
    simp only[List.length_cons] at h
    exact List.length_eq_zero_iff.1 (by omega)
   subst this
   simp only[List.head?_cons,Option.getD_some,List.mem_singleton]
   exact eq_comm
def aBe (b:á) (g:ç) (d:Int):Bool :=
 g.2.1==d||b.2.2.2.2.1.any (fun c=>c.2.1==d&&(aAk c.2.2.1 c.2.2.2.1==g.1||aAk c.2.2.2.1 c.2.2.1==g.1))||b.2.2.2.2.2.any (fun n=>n.1==g.1&&n.2==d)
theorem a0s {b:á} (hs:Ļ b) (g:ç) (d:Int):awg b g d=some (aBe b g d):=by
 have h1:=hs.compares
 have h2:=hs.looks
 unfold awg aCS aBe
 cases hm:(g.2.1==d) with
 | true =>
   have:ieq g.2.1 d=true:=hm
   rw[Õ this]
   simp
 | false =>
   have:ieq g.2.1 d=false:=hm
   rw[Ò this]
   have inner:Ñ (fun(v14:Int) kk16=>agG d b.2.2.2.2.2 g.1 v14 (fun u15=>kk16 u15) (fun z12=>some z12) (fun _=>some false)) (0:Int)=some (b.2.2.2.2.2.any (fun n=>n.1==g.1&&n.2==d)):=by
    refine Eq.trans (ģ b.2.2.2.2.2 (fun n=>n.1==g.1&&n.2==d) (fun _=>some true) (some true) (some false) (fun _=>rfl) (fun i a hi ha kn=>?_) (fun kn=>?_)) ?_
    ·try dsimp only
     unfold agG
     rw[Ô hi,É ha,É ha,Ì hi (by omega)]
     cases h1:(a.1==g.1) with
     |false=>have:ieq a.1 g.1=false:=h1; simp[this]
     | true =>
       have:ieq a.1 g.1=true:=h1
       rw[this]
       cases h2:(a.2==d) with
       |false=>have:ieq a.2 d=false:=h2; simp[this]
       |true=>have:ieq a.2 d=true:=h2; simp[this]
    ·try dsimp only
     unfold agG
     rw[Ý]
    ·cases b.2.2.2.2.2.any _<;>rfl
   rw[inner]
   refine Eq.trans (ģ b.2.2.2.2.1 (fun c=>c.2.1==d&&(aAk c.2.2.1 c.2.2.2.1==g.1||aAk c.2.2.2.1 c.2.2.1==g.1)) (fun _=>some true) (some true) (some (b.2.2.2.2.2.any (fun n=>n.1==g.1&&n.2==d))) (fun _=>rfl) (fun i a hi ha kn=>?_) (fun kn=>?_)) ?_
   ·have hp:=hs.piles a (List.mem_of_getElem? ha)
    try dsimp only
    unfold ai7
    rw[Ô hi,É ha,ayR (by omega) (by omega),ayR (by omega) (by omega),Ì hi (by omega)]
    simp only[À]
    cases h1:(a.2.1==d) with
    |false=>have:ieq a.2.1 d=false:=h1; simp[this]
    | true =>
      have:ieq a.2.1 d=true:=h1
      rw[this]
      cases h2:(aAk a.2.2.1 a.2.2.2.1==g.1) with
      |true=>have:ieq (aAk a.2.2.1 a.2.2.2.1) g.1=true:=h2; simp[this]
      | false =>
        have:ieq (aAk a.2.2.1 a.2.2.2.1) g.1=false:=h2
        rw[this]
        cases h3:(aAk a.2.2.2.1 a.2.2.1==g.1) with
        |true=>have:ieq (aAk a.2.2.2.1 a.2.2.1) g.1=true:=h3; simp[this]
        |false=>have:ieq (aAk a.2.2.2.1 a.2.2.1) g.1=false:=h3; simp[this]
   ·try dsimp only
    unfold ai7
    rw[Ý]
   ·cases b.2.2.2.2.1.any _<;>rfl
theorem aYt {b:á} (h:Pre b) {g:ç} (hg:g∈b.2.1) {d:Int}:aBe b g d=true↔d∈ß b g:=by
 have hid:g.1≠0:=by
  have:=((alb g).1 (h.gauge g hg)).2.2.2.1
  omega
 rw[aeD]
 unfold aBe
 simp only[Bool.or_eq_true,List.any_eq_true,Bool.and_eq_true,beq_iff_eq,or_assoc]
 refine or_congr eq_comm (or_congr ?_ Iff.rfl)
 constructor
 ·rintro⟨c,hc,e,h1⟩
  obtain⟨_,l1,l2⟩:=h.cmp c hc
  refine⟨c,hc,?_,e⟩
  rw[aKc l1 hid,aKc l2 hid] at h1
  intro he
  rw[Bool.eq_iff_iff,List.contains_iff_mem,List.contains_iff_mem] at he
  rcases h1 with⟨x,y⟩|⟨x,y⟩
  ·exact y (he.1 x)
  ·exact y (he.2 x)
 ·rintro⟨c,hc,h1,e⟩
  obtain⟨_,l1,l2⟩:=h.cmp c hc
  refine⟨c,hc,e,?_⟩
  rw[aKc l1 hid,aKc l2 hid]
  by_cases ha:g.1∈c.2.2.1
  ·by_cases hb:g.1∈c.2.2.2.1
   ·exact absurd (by rw[Bool.eq_iff_iff,List.contains_iff_mem,List.contains_iff_mem]; exact⟨fun _=>hb,fun _=>ha⟩) h1
   ·exact .inl ⟨ha,hb⟩
  ·by_cases hb:g.1∈c.2.2.2.1
   ·exact .inr ⟨hb,ha⟩
   ·exact absurd (by rw[Bool.eq_iff_iff,List.contains_iff_mem,List.contains_iff_mem]; exact⟨fun x=>absurd x ha,fun x=>absurd x hb⟩) h1
def nx (v:Int) (D:List Int):Int:=D.foldl (fun m d=>if v<d then min m d else m) 20001
theorem aWH (v:Int) (D:List Int) (d:Int):nx v (D++[d])=if v<d then min (nx v D) d else nx v D:=by
 unfold nx
 rw[List.foldl_append]
 rfl
theorem aKd (v:Int):∀D:List Int,nx v D≤20001∧(∀d∈D,v<d→nx v D≤d)∧(nx v D=20001∨(nx v D∈D∧v<nx v D)):=by
 suffices H:∀(n:Nat) (D:List Int),D.length=n→nx v D≤20001∧(∀d∈D,v<d→nx v D≤d)∧(nx v D=20001∨(nx v D∈D∧v<nx v D)) from fun D=>H _ D rfl
 intro n
 induction n with
 | zero =>
   intro D hD
   rw[List.length_eq_zero_iff.1 hD]
   exact⟨Int.le_refl _,by simp,.inl rfl⟩
 | succ n ih =>
   intro D' hD'
   obtain⟨D,d,rfl⟩:∃D d,D'=D++[d]:=by
    rcases List.eq_nil_or_concat D' with rfl|⟨L,b,rfl⟩
    ·simp at hD'
    ·exact⟨L,b,by simp⟩
   obtain⟨h1,h2,h3⟩:=ih D (by simpa using hD')
   rw[aWH]
   by_cases hd:v<d
   ·rw[if_pos hd]
    refine⟨by omega,fun x hx hv=>?_,?_⟩
    ·rcases List.mem_append.1 hx with hx|hx
     ·have:=h2 x hx hv; omega
     ·rw[List.mem_singleton] at hx; omega
    ·rcases Int.le_total (nx v D) d with h|h
     ·rw[Int.min_eq_left h]
      rcases h3 with h3|h3
      ·exact .inl h3
      ·exact .inr ⟨by simp[h3.1],h3.2⟩
     ·rw[Int.min_eq_right h]
      exact .inr ⟨by simp,hd⟩
   ·rw[if_neg hd]
    refine⟨h1,fun x hx hv=>?_,?_⟩
    ·rcases List.mem_append.1 hx with hx|hx
     ·exact h2 x hx hv
     ·rw[List.mem_singleton] at hx; omega
    ·rcases h3 with h3|h3
     ·exact .inl h3
     ·exact .inr ⟨by simp[h3.1],h3.2⟩
theorem a1h {D:List Int} (hD:D.length≤1000000) (v:Int) (K:Int→Option (List (Int×Int))) :
 Ñ (fun(v18:Int×Int) kk21=>afq v D v18.1 v18.2 (fun u19 u20=>kk21 (u19,u20)) K) ((20001:Int),(0:Int))=K (nx v D):=by
 refine ő (fun x:Int×Int=>∃k:Nat,k≤D.length∧x=(nx v (D.take k),(k:Int))) (fun x=>D.length-x.2.toNat) ?_ ⟨0,by omega,rfl⟩
 rintro x ⟨k,hk,rfl⟩
 rcases Nat.lt_or_ge k D.length with hlt|hge
 ·refine .inr ⟨(nx v (D.take (k+1)),((k+1:Nat):Int)),⟨k+1,hlt,rfl⟩,by simp only[Int.toNat_natCast]; omega,fun kn=>?_⟩
  have ha:D[k]?=some D[k]:=List.getElem?_eq_getElem hlt
  unfold afq
  have ho:Ĩ D=((D.length:Nat):Int):=rfl
  rw[Ô hlt,ho,ς hlt,Ĥ ha,take_succ ha,aWH]
  by_cases h:v<D[k]
  ·rw[Õ (by simpa[igt] using h),ς hlt,Ĥ ha,Ì hlt (by omega),if_pos h,ayq]
   simp
  ·rw[Ò (by simpa[igt] using h),Ì hlt (by omega),if_neg h]
   simp
 ·have:k=D.length:=by omega
  subst this
  refine .inl fun kn=>?_
  unfold afq
  rw[Ý,List.take_length]
def aVJ (b:á) (g:ç) (D:List Int) (v:Int):List Int:=(aNB D).filter fun d=>decide (v<d)&&aBe b g d
theorem aFM {b:á} {g:ç} {D:List Int} (hD:∀d∈D,d≤20000) (v:Int):aVJ b g D v=if nx v D<20001 then(if aBe b g (nx v D) then nx v D::aVJ b g D (nx v D) else aVJ b g D (nx v D)) else[]:=by
 obtain⟨h1,h2,h3⟩:=aKd v D
 refine aSP ((ar2 D).sublist List.filter_sublist) ?_ fun x=>?_
 ·split
  ·split
   ·rw[List.pairwise_cons]
    refine⟨fun a ha=>?_,(ar2 D).sublist List.filter_sublist⟩
    have:=(List.mem_filter.1 ha).2
    simp at this
    omega
   ·exact(ar2 D).sublist List.filter_sublist
  ·exact List.Pairwise.nil
 ·have hm:∀v x,x∈aVJ b g D v↔x∈D∧v<x∧aBe b g x=true:=by
   intro v x
   unfold aVJ
   rw[List.mem_filter,apz]
   simp
  rw[hm]
  split
  ·rename_i hlt
   have h4:nx v D∈D∧v<nx v D:=by
    rcases h3 with h3|h3
    ·omega
    ·exact h3
   split
   ·rename_i ha
    rw[List.mem_cons,hm]
    constructor
    ·rintro⟨a,c,e⟩
     have:=h2 x a c
     rcases Int.lt_or_eq_of_le this with h|h
     ·exact .inr ⟨a,h,e⟩
     ·exact .inl h.symm
    ·rintro(rfl|⟨a,c,e⟩)
     ·exact⟨h4.1,h4.2,ha⟩
     ·exact⟨a,by omega,e⟩
   ·rename_i ha
    rw[hm]
    constructor
    ·rintro⟨a,c,e⟩
     have:=h2 x a c
     rcases Int.lt_or_eq_of_le this with h|h
     ·exact⟨a,h,e⟩
     ·rw[←h] at e; exact absurd e ha
    ·rintro⟨a,c,e⟩
     exact⟨a,by omega,e⟩
  ·rename_i hge
   constructor
   ·rintro⟨a,c,e⟩
    have:=h2 x a c
    have:=hD x a
    omega
   ·intro h; cases h
theorem a0k {b:á} {g:ç} {D:List Int} (v:Int):(aVJ b g D v).length≤D.length :=
 Nat.le_trans (List.length_filter_le _ _) (ats D)
set_option maxHeartbeats 1000000 in
theorem aZR {b:á} (hs:Ļ b) {i:Nat} {g:ç} (hg:b.2.1[i]?=some g) {D:List Int} (hl:D.length≤1000000) (hD:∀d∈D,d≤20000) {out:List (Int×Int)} (ho:out.length+D.length≤1000000000) (K:List (Int×Int)→Option (List (Int×Int))) :
 Ñ (fun(v24:Int×List (Int×Int)) kk27=>afr (i:Int) b.1.1 b.1.2 b.2.1 b.2.2.1 b.2.2.2.1 b.2.2.2.2.1 b.2.2.2.2.2 D v24.1 v24.2 (fun u25 u26=>kk27 (u25,u26)) K) ((-1:Int),out)=K (out++(aVJ b g D (-1)).map fun d=>((g.1,d):Int×Int)):=by
 refine ő (fun x:Int×List (Int×Int)=>x.2++(aVJ b g D x.1).map (fun d=>((g.1,d):Int×Int))=out++(aVJ b g D (-1)).map fun d=>((g.1,d):Int×Int)) (fun x=>(20001-x.1).toNat) ?_ rfl
 rintro⟨v,o⟩ hI
 simp only at hI
 by_cases hv:v<20001
 ·obtain⟨h1,h2,h3⟩:=aKd v D
  have hlt:v<nx v D:=by
   rcases h3 with h3|h3
   ·omega
   ·exact h3.2
  refine .inr ⟨(nx v D,if nx v D<20001∧aBe b g (nx v D)=true then o++[(g.1,nx v D)] else o),?_,by simp only; omega,fun kn=>?_⟩
  ·rw[←hI]
   simp only
   rw[aFM hD v]
   by_cases ha:nx v D<20001
   ·rw[if_pos ha]
    cases hq:aBe b g (nx v D) with
    |true=>rw[if_pos ⟨ha,rfl⟩,if_pos rfl]; simp
    |false=>rw[if_neg (by simp),if_neg (by simp)]
   ·rw[if_neg (by omega),if_neg ha]
    have:aVJ b g D (nx v D)=[]:=by
     have e:=aFM (b:=b) (g:=g) hD (nx v D)
     rw[e,if_neg]
     obtain⟨g1,g2,g3⟩:=aKd (nx v D) D
     rcases g3 with g3|g3
     ·omega
     ·have:=hD _ g3.1; omega
    rw[this]
  ·unfold afr
   rw[Õ (by simpa[ilt] using hv)]
   refine Eq.trans (a1h hl v _) ?_
   dsimp only
   by_cases ha:nx v D<20001
   ·rw[Õ (by simpa[ilt] using ha),É hg,a0s (b:=((b.1.1,b.1.2),b.2.1,b.2.2.1,b.2.2.2.1,b.2.2.2.2.1,b.2.2.2.2.2)) ⟨hs.gauges,hs.uses,hs.loans,hs.compares,hs.looks,hs.piles⟩,À]
    have e:aBe ((b.1.1,b.1.2),b.2.1,b.2.2.1,b.2.2.2.1,b.2.2.2.2.1,b.2.2.2.2.2) g (nx v D)=aBe b g (nx v D):=rfl
    rw[e]
    cases hq:aBe b g (nx v D) with
    | true =>
      have hol:o.length≤1000000000:=by
       have:=congrArg List.length hI
       simp only[List.length_append,List.length_map] at this
       have:=a0k (b:=b) (g:=g) (D:=D) (-1)
       omega
      rw[Õ rfl,É hg,Ù (by simp only[List.length_singleton]; omega),Am.iff_true,if_pos ⟨ha,rfl⟩]
    |false=>rw[Ò rfl,if_neg (by simp)]
   ·rw[Ò (by simpa[ilt] using ha),if_neg (by omega)]
 ·refine .inl fun kn=>?_
  unfold afr
  rw[Ò (by simpa[ilt] using hv)]
  have:aVJ b g D v=[]:=by
   rw[aFM hD,if_neg]
   obtain⟨g1,g2,g3⟩:=aKd v D
   rcases g3 with g3|g3
   ·omega
   ·have:=hD _ g3.1; omega
  rw[this] at hI
  simp only[List.map_nil,List.append_nil] at hI
  rw[hI]
def apq (b:á):List Int:=b.2.1.map (fun g=>g.2.1)++b.2.2.2.2.1.map (fun c=>c.2.1)++b.2.2.2.2.2.map fun n=>n.2
theorem aSQ {b:á} (hs:Ļ b):(apq b).length≤3000:=by
 have h1:=hs.gauges; have h2:=hs.compares; have h3:=hs.looks
 simp only[apq,List.length_append,List.length_map]
 omega
theorem Pre.days {b:á} (h:Pre b):∀d∈apq b,0≤d∧d≤20000:=by
 intro d hd
 simp only[apq,List.mem_append,List.mem_map] at hd
 rcases hd with(⟨g,hg,rfl⟩|⟨c,hc,rfl⟩)|⟨n,hn,rfl⟩
 ·have:=((alb g).1 (h.gauge g hg)).2.2.2.2.1
  omega
 ·have:=(h.cmp c hc).1
  simp only[awN,inP,Bool.and_eq_true,decide_eq_true_eq] at this
  exact this
 ·have:=h.look n hn
  simp only[awN,inP,Bool.and_eq_true,decide_eq_true_eq] at this
  exact this
theorem aYu {b:á} (h:Pre b) {g:ç} (hg:g∈b.2.1):aVJ b g (apq b) (-1)=ß b g:=by
 refine aSP ((ar2 _).sublist List.filter_sublist) (amG b g) fun x=>?_
 unfold aVJ
 rw[List.mem_filter,apz,Bool.and_eq_true,aYt h hg,decide_eq_true_eq]
 constructor
 ·exact fun hx=>hx.2.2
 ·intro hx
  have hm:x∈apq b:=by
   simp only[apq,List.mem_append,List.mem_map]
   rcases aeD.1 hx with e|⟨c,hc,_,e⟩|⟨n,hn,_,e⟩
   ·exact .inl (.inl ⟨g,hg,e.symm⟩)
   ·exact .inl (.inr ⟨c,hc,e⟩)
   ·exact .inr ⟨n,hn,e⟩
  have:=h.days x hm
  exact⟨hm,by omega,hx⟩
theorem aKi {α:Type} (f:α→Int) (l:List α) (s:List Int) (i:Nat) {a:α} (ha:l[i]?=some a):s++(l.take (i+1)).map f=(s++(l.take i).map f)++[f a]:=by
 rw[take_succ ha,List.map_append,List.append_assoc]; rfl
theorem awH {b:á} (h:Pre b):aej b=some (Ï b):=by
 have h1:=h.size.gauges; have h2:=h.size.compares; have h3:=h.size.looks
 have hl:=aSQ h.size
 unfold aej axj
 refine ù b.2.1 (fun i=>(b.2.1.take i).map (fun g=>g.2.1)) _ rfl (fun i a hi ha kn=>?_) (fun kn=>?_)
 ·try dsimp only
  unfold ahs
  have:=aKi (fun g:ç=>g.2.1) b.2.1 [] i ha
  simp only[List.nil_append] at this
  rw[Ô hi,É ha,Ù (by simp only[List.length_map,List.length_take,List.length_singleton]; omega),Am.iff_true,Ì hi (by omega),this]
 ·try dsimp only
  unfold ahs
  rw[Ý,List.take_length]
  dsimp only
  refine ù b.2.2.2.2.1 (fun i=>b.2.1.map (fun g=>g.2.1)++(b.2.2.2.2.1.take i).map (fun c=>c.2.1)) _ (by simp) (fun i a hi ha kn=>?_) (fun kn=>?_)
  ·try dsimp only
   unfold ahr
   rw[Ô hi,É ha,Ù (by simp only[List.length_append,List.length_map,List.length_take,List.length_singleton]; omega),Am.iff_true,Ì hi (by omega),aKi (fun c:Cmp=>c.2.1) b.2.2.2.2.1 _ i ha]
  ·try dsimp only
   unfold ahr
   rw[Ý,List.take_length]
   dsimp only
   refine ù b.2.2.2.2.2 (fun i=>b.2.1.map (fun g=>g.2.1)++b.2.2.2.2.1.map (fun c=>c.2.1)++(b.2.2.2.2.2.take i).map (fun n=>n.2)) _ (by simp) (fun i a hi ha kn=>?_) (fun kn=>?_)
   ·try dsimp only
    unfold ahq
    rw[Ô hi,É ha,Ù (by simp only[List.length_append,List.length_map,List.length_take,List.length_singleton]; omega),Am.iff_true,Ì hi (by omega),aKi (fun n:Int×Int=>n.2) b.2.2.2.2.2 _ i ha]
   ·try dsimp only
    unfold ahq
    rw[Ý,List.take_length]
    dsimp only
    rw[show b.2.1.map (fun g=>g.2.1)++b.2.2.2.2.1.map (fun c=>c.2.1)++b.2.2.2.2.2.map (fun n=>n.2)=apq b from rfl]
    refine ù b.2.1 (fun i=>(b.2.1.take i).flatMap fun g=>(ß b g).map fun d=>((g.1,d):Int×Int)) _ rfl (fun i g hi hg kn=>?_) (fun kn=>?_)
    ·try dsimp only
     unfold ahp
     rw[Ô hi]
     have hlen:((b.2.1.take i).flatMap fun g=>(ß b g).map fun d=>((g.1,d):Int×Int)).length≤2001000:=by
      have:=amt (fun g:ç=>(ß b g).map fun d=>((g.1,d):Int×Int)) 2001 (fun g=>by rw[List.length_map]; exact aww h.size g) (b.2.1.take i)
      rw[List.length_take] at this
      have:min i b.2.1.length*2001≤1000*2001:=Nat.mul_le_mul_right _ (by omega)
      omega
     refine Eq.trans (aZR h.size hg (by omega) (fun d hd=>(h.days d hd).2) (by omega) _) ?_
     rw[Ì hi (by omega),aYu h (List.mem_of_getElem? hg),take_succ hg,List.flatMap_append]
     simp
    ·try dsimp only
     unfold ahp
     rw[Ý,List.take_length]
     rfl
end Go.Proofs.ZzM
end
noncomputable section
namespace Go.Proofs.ZzM
open Go Go.Am
theorem aXP {k:Int×Int} (hk:0<k.2) (m n:Int):0<a0L (atW k m) (atW k n)↔k.1*n<k.1*m:=by
 obtain⟨g,g0,_,g1,g2⟩:=apA (n:=k.1*m) hk
 obtain⟨h,h0,_,h1,h2⟩:=apA (n:=k.1*n) hk
 have key:(atW k n).1*(atW k m).2<(atW k m).1*(atW k n).2↔k.1*n<k.1*m:=by
  have e1:(atW k n).1*(atW k m).2*((g:Int)*h)=k.1*n*k.2:=by
   show(ag0 (k.1*n) k.2).1*(ag0 (k.1*m) k.2).2*((g:Int)*h)=k.1*n*k.2
   calc _=((ag0 (k.1*n) k.2).1*h)*((ag0 (k.1*m) k.2).2*g):=by ac_rfl
    _=_:=by rw[←h1,←g2]
  have e2:(atW k m).1*(atW k n).2*((g:Int)*h)=k.1*m*k.2:=by
   show(ag0 (k.1*m) k.2).1*(ag0 (k.1*n) k.2).2*((g:Int)*h)=k.1*m*k.2
   calc _=((ag0 (k.1*m) k.2).1*g)*((ag0 (k.1*n) k.2).2*h):=by ac_rfl
    _=_:=by rw[←g1,←h2]
  have pg:0<(g:Int)*h:=Int.mul_pos (by omega) (by omega)
  constructor
  ·intro hl
   have:=Int.mul_lt_mul_of_pos_right hl pg
   rw[e1,e2] at this
   exact Int.lt_of_mul_lt_mul_right this (by omega)
  ·intro hl
   have:=Int.mul_lt_mul_of_pos_right hl hk
   rw[←e1,←e2] at this
   exact Int.lt_of_mul_lt_mul_right this (by omega)
 rw[←key]
 unfold a0L
 by_cases he:atW k m=atW k n
 ·rw[if_pos he,he]
  omega
 ·rw[if_neg he]
  split
  ·omega
  ·split<;>omega
theorem aUI {k:Int×Int} (hk:0<k.2) {heat:Int×Int} (hh:heat.1≤heat.2):aKa k heat=if k.1<0 then(atW k heat.2,atW k heat.1) else(atW k heat.1,atW k heat.2):=by
 unfold aKa
 by_cases hn:k.1<0
 ·rw[if_pos hn]
  by_cases he:heat.1=heat.2
  ·rw[he]
   split<;>rfl
  ·rw[if_pos ((aXP hk _ _).2 (Int.mul_lt_mul_of_neg_left (by omega) hn))]
 ·rw[if_neg hn,if_neg (fun h=>by
   have h1:=(aXP hk _ _).1 h
   have h2:=Int.mul_le_mul_of_nonneg_left hh (show 0≤k.1 by omega)
   omega)]
end Go.Proofs.ZzM
end
noncomputable section
namespace Go.Proofs.ZzM
open Go Go.Am
theorem aJF {n d:Int} (hd:0<d) (hn:n.natAbs≤2147483647) (hd2:d≤2147483647):aiy n d=some (ag0 n d,0):=by
 obtain⟨g,h0,hg,h1,h2⟩:=apA (n:=n) hd
 have hr:=(aeG _).1 (aJS hd hn hd2)
 have z:û d 0=false:=by simp[û]; omega
 have zg:û (g:Int) 0=false:=by simp[û]; omega
 unfold aiy asD
 by_cases hn0:n=0
 ·subst hn0
  have e:ag0 0 d=(0,1):=by
   unfold ag0
   have:(Nat.gcd (0:Int).natAbs d.natAbs:Int)=d:=by simp; omega
   rw[this,Int.ediv_self (by omega)]
   simp
  rw[Ò (by rfl),Ò z,Û (by simp) (by simp),Ò z,Int.tdiv_self (by omega),Û (by omega) (by omega),Int.zero_tdiv,e]
  rfl
 ·rw[Õ (by simpa[ine] using hn0),Ò z]
  have a0:(Int.tmod n d).natAbs=n.natAbs % d.natAbs:=Int.natAbs_tmod n d
  have hlt:=Nat.mod_lt n.natAbs (show 0<d.natAbs by omega)
  rw[aYJ ⟨by omega,by omega⟩,À]
  have ed:d=((d.natAbs:Nat):Int):=by omega
  have eg:ap4 ((Int.tmod n d).natAbs:Int) d=some (g:Int):=by
   have:=aYH (Int.tmod n d).natAbs d.natAbs
   rw[←ed] at this
   rw[this,a0,hg]
   congr 2
   rw[Nat.gcd_comm n.natAbs,Nat.gcd_rec d.natAbs n.natAbs]
  rw[eg,À,Ò zg]
  have q1:Int.tdiv n (g:Int)=(ag0 n d).1:=by
   conv=>lhs; rw[h1]
   exact Int.mul_tdiv_cancel _ (by omega)
  have q2:Int.tdiv d (g:Int)=(ag0 n d).2:=by
   conv=>lhs; rw[h2]
   exact Int.mul_tdiv_cancel _ (by omega)
  rw[q1,q2,Û (by omega) (by omega),Ò zg,Û (by omega) (by omega),Ò (by simp[igt]; omega),Ò (by simp[ilt]; omega),Ò (by simp[igt]; omega)]
theorem a1Q {x y:Int×Int} (hx:aiL x 1000 100) (hy:aiL y 1000 100):aBD x y=some (subP x y,0):=by
 obtain⟨b1,b2,b3⟩:=awQ hx hy
 have h1:=agn hx.num (show -100≤y.2∧y.2≤100 from⟨by have:=hy.pos; omega,hy.den⟩)
 have h2:=agn hy.num (show -100≤x.2∧x.2≤100 from⟨by have:=hx.pos; omega,hx.den⟩)
 have h3:=hy.num
 unfold aBD aKX aMF aKZ aMG aK5
 rw[Û (by omega) (by omega),À]
 dsimp only
 have e:(0-y.1)*x.2 = -(y.1*x.2):=by rw[Int.zero_sub,Int.neg_mul]
 rw[Û (by omega) (by omega),e,Û (by omega) (by omega),Û (by omega) (by omega),Û (by omega) (by omega)]
 have e2:x.1*y.2 + -(y.1*x.2)=x.1*y.2-y.1*x.2:=by omega
 rw[e2,aJF b2 (by omega) (by omega),À,À]
 rfl
theorem aYG {k:Int×Int} (hk:aiL k 200000 10000) {n:Int} (hn : -10000≤n∧n≤10000):amy (n,1) k=some (atW k n,0):=by
 have b:=aw6 hk hn
 have p:=hk.pos
 have q:=hk.den
 unfold amy aK0
 have e:n*k.1=k.1*n:=Int.mul_comm _ _
 dsimp only
 rw[e,Int.one_mul,Û (by omega) (by omega),Û (by omega) (by omega),aJF (by omega) (by omega) (by omega),À]
 rfl
theorem aYF {k:Int×Int} (hk:aiL k 200000 10000) {heat:Int×Int} (hh:aer heat (-10000) 10000=true):ap3 ((heat.1,1),(heat.2,1)) k=some (aKa k heat,0):=by
 simp only[aer,Bool.and_eq_true,decide_eq_true_eq] at hh
 have hp:=hk.pos
 rw[aUI (by omega) hh.2.1]
 unfold ap3 axs awi aDs
 dsimp only
 rw[aYG hk ⟨by omega,by omega⟩,aYG hk ⟨by omega,by omega⟩]
 by_cases hn:k.1<0
 ·rw[Õ (by simpa[ilt] using hn),if_pos hn]
  rfl
 ·rw[Ò (by simpa[ilt] using hn),if_neg hn]
  rfl
theorem aYC {r:Int×Int} (h:ayZ r=true):ap5 r=some (r.1 / r.2):=by
 have:=(aeG r).1 h
 have e:=aMB (n:=r.1) (d:=r.2) (by omega) (by omega)
 unfold ali avy at e
 unfold ap5 axu aFd aDq
 rw[e]
 rfl
theorem a0r {r:Int×Int} (h:ayZ r=true):awj r=some (ayH r):=by
 have hr:=(aeG r).1 h
 unfold awj aDu aSm aRy
 have z:û r.2 0=false:=by simp[û]; omega
 have t:=Int.mul_tdiv_add_tmod r.1 r.2
 have b1 : -4000000000≤Int.tdiv r.1 r.2∧Int.tdiv r.1 r.2≤4000000000:=by
  have:=Int.natAbs_tdiv_le_natAbs r.1 r.2
  omega
 have h5 : -r.2<Int.tmod r.1 r.2∧Int.tmod r.1 r.2<r.2:=by
  have h6:=Int.natAbs_tmod r.1 r.2
  have h7:=Nat.mod_lt r.1.natAbs (show 0<r.2.natAbs by omega)
  omega
 rw[Ò z,Û (by omega) (by omega),Ò z,ď]
 unfold ayH
 by_cases hp:0<Int.tmod r.1 r.2
 ·rw[if_pos (by simpa[igt] using hp),Û (by omega) (by omega),À]
  congr 1
  have : -r.1 / r.2 = -(Int.tdiv r.1 r.2)-1:=by
   refine(Int.ediv_eq_iff_of_pos (by omega)).2 ⟨?_,?_⟩
   ·rw[Int.sub_mul,Int.neg_mul,Int.mul_comm (Int.tdiv r.1 r.2)]; omega
   ·rw[Int.sub_mul,Int.neg_mul,Int.mul_comm (Int.tdiv r.1 r.2)]; omega
  omega
 ·rw[if_neg (by simpa[igt] using hp),À]
  congr 1
  have : -r.1 / r.2 = -(Int.tdiv r.1 r.2):=by
   refine(Int.ediv_eq_iff_of_pos (by omega)).2 ⟨?_,?_⟩
   ·rw[Int.neg_mul,Int.mul_comm (Int.tdiv r.1 r.2)]; omega
   ·rw[Int.neg_mul,Int.mul_comm (Int.tdiv r.1 r.2)]; omega
  omega
end Go.Proofs.ZzM
end
noncomputable section
namespace Go.Proofs.ZzM
open Go Go.Am
structure a10 (b:á) (c:Cmp):Prop where
 ok:aSW b c
 ids:b.2.1.Pairwise fun a b=>a.1<b.1
 pile:∀x∈c.2.2.1++c.2.2.2.1,∃g,Ŝ b x=some g
theorem ğ.cmpIn {b:á} (h:ğ b) {c:Cmp} (hc:c∈b.2.2.2.2.1):a10 b c:=⟨h.cmp hc,h.ids,fun x hx=>by obtain⟨⟨g,hg,_⟩,_⟩:=h.pile hc hx; exact⟨g,hg⟩⟩
theorem aSW.ne {b:á} {c:Cmp} (h:aSW b c):∀x∈c.2.2.1++c.2.2.2.1,x≠0:=by
 intro x hx
 have hn:=(Α c).1 h.nums
 have h1:=((atz _).1 hn.2.2.2.2.2.1).1
 have h2:=((atz _).1 hn.2.2.2.2.2.2).1
 rcases List.mem_append.1 hx with hx|hx
 ·have:=h1 x hx; omega
 ·have:=h2 x hx; omega
theorem aQH {b:á} (hs:Ļ b) (hi:b.2.1.Pairwise fun a b=>a.1<b.1) {p q:List Int} (hx:∀x∈p,x≠0∧∃g,Ŝ b x=some g):alc b (aAk p q)=some (atw (adl b) (æ p q)):=by
 have h1:=hs.gauges
 unfold alc axf
 cases hl:æ p q with
 | nil =>
   have:aAk p q=0:=by unfold aAk; rw[hl]; rfl
   rw[this]
   rfl
 | cons x t =>
   have e:aAk p q=x:=by unfold aAk; rw[hl]; rfl
   have hm:x∈p:=(aex.1 (show x∈æ p q by rw[hl]; simp)).1
   obtain⟨h0,g,hg⟩:=hx x hm
   rw[e,Ò (by simpa[ieq] using h0),aBM (by omega),À]
   rcases apT (b:=b) (id:=x) with⟨j,g',h2,h3,h4⟩|⟨h2,h3⟩
   ·rw[h2]
    try dsimp only
    rw[É h3]
    unfold atw
    dsimp only
    rw[apF hi,h4]
   ·rw[h3] at hg; cases hg
theorem aVN {b:á} (hs:Ļ b) {c:Cmp} (h:a10 b c):amw b c=some (ķ b c):=by
 have hn:=(Α c).1 h.ok.nums
 have ha:=ĩ hn.2.2.2.2.2.1
 have hb:=ĩ hn.2.2.2.2.2.2
 have hA:∀x∈c.2.2.1,x≠0∧∃g,Ŝ b x=some g:=fun x hx=>⟨h.ok.ne x (by simp[hx]),h.pile x (by simp[hx])⟩
 have hB:∀x∈c.2.2.2.1,x≠0∧∃g,Ŝ b x=some g:=fun x hx=>⟨h.ok.ne x (by simp[hx]),h.pile x (by simp[hx])⟩
 unfold amw asz
 rw[ayR (by omega) (by omega),À,aQH hs h.ids hA,À,ayR (by omega) (by omega),À,aQH hs h.ids hB,À,a1Q h.ok.r1 h.ok.r2,À]
 try dsimp only
 rw[aYF (heat:=c.2.2.2.2.2.2) (aBT h.ok.r1 h.ok.r2) hn.2.2.2.2.1,À]
 rfl
theorem aYI {b:á} {c:Cmp} (hA:c.2.2.1.length≤1000) (hB:c.2.2.2.1.length≤1000) (h1:0≤b.1.1) (h2:b.1.1≤1000000) (h3:0≤b.1.2) (h4:b.1.2≤1000000):ap0 b c=some (aem b c):=by
 unfold ap0 axm aem
 have e:∀n:Nat,aFZ 0 ((n:Int)-1)=((n-1:Nat):Int):=by
  intro n
  unfold aFZ
  split<;>omega
 have bd:∀(n:Nat) (x:Int),n≤1000→0≤x→x≤1000000→0≤((n-1:Nat):Int)*x∧((n-1:Nat):Int)*x≤1000000000:=by
  intro n x hn h0 hx
  refine⟨Int.mul_nonneg (by omega) h0,?_⟩
  have:=Int.mul_le_mul (show((n-1:Nat):Int)≤1000 by omega) hx h0 (by omega)
  omega
 have b1:=bd _ _ hA h1 h2
 have b2:=bd _ _ hA h3 h4
 have b3:=bd _ _ hB h1 h2
 have b4:=bd _ _ hB h3 h4
 simp only[â]
 rw[Û (by omega) (by omega),Û (by omega) (by omega)]
 simp only[e]
 rw[Û (by omega) (by omega),Û (by omega) (by omega),Û (by omega) (by omega),Û (by omega) (by omega),Û (by omega) (by omega),Û (by omega) (by omega)]
theorem a0u {b:á} (hs:Ļ b) (hf:0≤b.1.1∧b.1.1≤b.1.2∧b.1.2≤1000000) {c:Cmp} (h:a10 b c):ald b c=some (ž b c):=by
 have hn:=(Α c).1 h.ok.nums
 have ha:=ĩ hn.2.2.2.2.2.1
 have hb:=ĩ hn.2.2.2.2.2.2
 obtain⟨q1,q2,b1,b2,b3⟩:=anx hf h.ok
 have c1:=aqd q1
 have c2:=ams q2
 have fb:=amu (b:=b) (c:=c) (by omega) (by omega) (by omega) (by omega) (by omega) (by omega)
 have hd:=hn.2.2.1
 unfold ald aCX ž
 rw[aVN hs h,À,aYI (by omega) (by omega) (by omega) (by omega) (by omega) (by omega),À,aYC q2.rat,a0r q1.rat]
 simp only[À]
 rw[Û (by omega) (by omega),Û (by omega) (by omega),Û (by omega) (by omega),Û (by omega) (by omega),Û (by omega) (by omega),Û (by omega) (by omega)]
end Go.Proofs.ZzM
end
noncomputable section
namespace Go.Proofs.ZzM
open Go Go.Am
section
variable {b:á}
theorem a0v (h:ğ b) {id:Int} {g:ç} (hg:Ŝ b id=some g) {f t:Int} (hf:0≤f∧f≤100000) (ht:t≤100000):ale b id f t=some (adE b g f t):=by
 have hG:=h.nG
 have hU:=h.nU
 have hL:=h.nL
 obtain⟨hgm,hid⟩:=ajH hg
 unfold ale aC7
 rw[aBM (by omega),À]
 rcases apT (b:=b) (id:=id) with⟨j,g',h2,h3,h4⟩|⟨h2,h3⟩
 ·rw[h2]
  have:g'=g:=by rw[hg] at h4; exact(Option.some.inj h4).symm
  subst this
  try dsimp only
  rw[É h3]
  refine ő (fun x:Int×Int=>f≤x.2∧(x.2≤t∨x.2=f)∧x.1=adE b g' f x.2) (fun x=>(t-x.2).toNat) ?_ ⟨Int.le_refl _,.inr rfl,(aoW g' (Int.le_refl _)).symm⟩
  rintro⟨s,d⟩ ⟨hfd,hdt,hs⟩
  simp only at hfd hdt hs
  subst hs
  by_cases hd:d<t
  ·refine .inr ⟨(adE b g' f (d+1),d+1),⟨by simp only; omega,.inl (by simp only; omega),rfl⟩,by simp only; omega,fun kn=>?_⟩
   have e:=aEP h g' hfd
   have lb:=aeZ h hgm (f:=f) (t:=d) hf.1
   have lb2:=aeZ h hgm (f:=f) (t:=d+1) hf.1
   unfold aja
   rw[Õ (by simpa[ilt] using hd),aUo (b:=((b.1.1,b.1.2),b.2.1,b.2.2.1,b.2.2.2.1,b.2.2.2.2.1,b.2.2.2.2.2)) (by simp only; omega),À]
   have e1:afF ((b.1.1,b.1.2),b.2.1,b.2.2.1,b.2.2.2.1,b.2.2.2.2.1,b.2.2.2.2.2) id d=afF b id d:=rfl
   rw[e1]
   unfold aSs at e
   rw[hid] at e
   cases ha:afF b id d with
   | some l =>
     rw[ha] at e
     simp only at e
     rw[Õ rfl]
     try dsimp only
     rw[←e,Û (by omega) (by omega),Û (by omega) (by omega)]
   | none =>
     rw[ha] at e
     simp only at e
     rw[Ò rfl,a0t (b:=((b.1.1,b.1.2),b.2.1,b.2.2.1,b.2.2.2.1,b.2.2.2.2.1,b.2.2.2.2.2)) (by simp only; omega),À]
     have e2:aAf ((b.1.1,b.1.2),b.2.1,b.2.2.1,b.2.2.2.1,b.2.2.2.2.1,b.2.2.2.2.2) id d=aAf b id d:=rfl
     rw[e2]
     cases hu:aAf b id d with
     | true =>
       rw[hu,if_pos rfl] at e
       rw[Õ rfl]
       try dsimp only
       rw[←e,Û (by omega) (by omega),Û (by omega) (by omega)]
     | false =>
       rw[hu,if_neg (by simp)] at e
       rw[Ò rfl,Û (by omega) (by omega),e,Int.add_zero]
  ·refine .inl fun kn=>?_
   unfold aja
   rw[Ò (by simpa[ilt] using hd)]
   have:adE b g' f d=adE b g' f t:=by
    rcases Int.lt_or_le t f with hlt|hge
    ·have:d=f:=by omega
     rw[this,aoW g' (Int.le_refl _),aoW g' (by omega)]
    ·have:d=t:=by omega
     rw[this]
   rw[this]
 ·rw[h3] at hg; cases hg
end
end Go.Proofs.ZzM
end
noncomputable section
namespace Go.Proofs.ZzM
open Go Go.Am
theorem awI {b:á} (h:Pre b) (n:Int×Int):χ b n=some (ak7 b n.1 n.2):=by
 have hl:=aw5 h.size
 unfold χ axk
 rw[awH h,À]
 refine Eq.trans (π (Ï b) (fun m=>decide (n.1=m.1)&&decide (n.2=m.2)) (fun z=>some (z+1)) (some 0) (fun i a hi ha kn=>?_) (fun kn=>?_)) ?_
 ·try dsimp only
  unfold aht
  rw[Ô hi,É ha,Ì hi (by omega),Ì hi (by omega),ď,Bool.and_true]
  have e:(û a.1 n.1&&û a.2 n.2)=(decide (n.1=a.1)&&decide (n.2=a.2)):=by
   rw[Bool.eq_iff_iff]
   simp only[û,Bool.and_eq_true,decide_eq_true_eq]
   exact and_congr eq_comm eq_comm
  rw[e]
 ·try dsimp only
  unfold aht
  rw[Ý]
 ·unfold ak7 adJ
  cases List.findIdx? (fun m=>decide (n.1=m.1)&&decide (n.2=m.2)) (Ï b)<;>rfl
theorem aXm {b:á} (h:Pre b) (p q:List Int) (d:Int):ak7 b (aAk p q) d=atP (Ï b) (æ p q) d:=by
 unfold ak7 atP aAk
 cases hl:æ p q with
 | nil =>
   simp only[List.head?_nil,Option.getD_none]
   have:adJ (Ï b) 0 d=none:=by
    unfold adJ
    rw[List.findIdx?_eq_none_iff]
    intro n hn
    obtain⟨g,hg,hn⟩:=List.mem_flatMap.1 hn
    obtain⟨e,_,rfl⟩:=List.mem_map.1 hn
    have:=((alb g).1 (h.gauge g hg)).2.2.2.1
    have:¬((0:Int)=g.1):=by omega
    simp[this]
   rw[this]
 |cons x t=>rfl
section
variable {b:á}
theorem aZn {k:Nat} (hk:k<(Ï b).length):∃(i:Nat) (g:ç) (j:Nat) (d:Int),b.2.1[i]?=some g∧(ß b g)[j]?=some d∧k=off b i+j∧(Ï b)[k]?=some (g.1,d):=by
 obtain⟨i,g,j,h1,h2,h3⟩:=aTz (b:=b) b.2.1.length (Nat.le_refl _) k (by rw[aWF]; exact hk)
 have hd:(ß b g)[j]?=some (ß b g)[j]:=List.getElem?_eq_getElem h2
 exact⟨i,g,j,_,h1,hd,h3,by rw[h3]; exact aBp h1 hd⟩
theorem aUD (h:ğ b) {i j:Nat} {g g':ç} (hi:b.2.1[i]?=some g) (hj:b.2.1[j]?=some g') (he:g.1=g'.1):i=j∧g=g':=by
 obtain⟨h1,rfl⟩:=List.getElem?_eq_some_iff.1 hi
 obtain⟨h2,rfl⟩:=List.getElem?_eq_some_iff.1 hj
 have hp:=List.pairwise_iff_getElem.1 h.ids
 rcases Nat.lt_trichotomy i j with hlt|rfl|hlt
 ·have:=hp i j h1 h2 hlt; omega
 ·exact⟨rfl,rfl⟩
 ·have:=hp j i h2 h1 hlt; omega
def ait (b:á) (i:Nat) (g:ç) (k:Nat):List Lk :=
 if k≤off b i then[] else[(0,(off b i:Int)+1,g.2.2.1+g.2.2.2.1.2),((off b i:Int)+1,0,-(g.2.2.1+g.2.2.2.1.1))] ++
  (List.range (min (k-off b i-1) ((ß b g).length-1))).flatMap fun(k:Nat)=>[((off b i:Int)+1+k,(off b i:Int)+1+k+1,0),((off b i:Int)+1+k+1,(off b i:Int)+1+k,adE b g ((ß b g)[k]?.getD 0) ((ß b g)[k+1]?.getD 0))]
def adt (b:á) (i:Nat) (g:ç) (k:Nat):List (Int×Int) :=
 if k≤off b i then[] else[(1,(i:Int)),(1,(i:Int))]++(List.range (min (k-off b i-1) ((ß b g).length-1))).flatMap fun _=>[(2,(i:Int)),(2,(i:Int))]
theorem aU9 (h:ğ b) {i:Nat} {g:ç} (hg:b.2.1[i]?=some g):ait b i g (Ï b).length=ó b g∧adt b i g (Ï b).length=ñ b i g:=by
 have ho:=aWE h hg
 have hp:=List.length_pos_of_mem (aeN (b:=b) g)
 have e:min ((Ï b).length-off b i-1) ((ß b g).length-1)=(ß b g).length-1:=by omega
 unfold ait adt ó ñ
 rw[if_neg (by omega),if_neg (by omega),e,aUf h hg]
 exact⟨rfl,rfl⟩
theorem aP1 {i:Nat} {g:ç} {k:Nat} (hk:k<off b i∨off b i+(ß b g).length≤k) (hp:0<(ß b g).length):ait b i g (k+1)=ait b i g k∧adt b i g (k+1)=adt b i g k:=by
 unfold ait adt
 rcases hk with hk|hk
 ·rw[if_pos (by omega),if_pos (by omega),if_pos (by omega),if_pos (by omega)]
  exact⟨rfl,rfl⟩
 ·have e:min (k+1-off b i-1) ((ß b g).length-1)=min (k-off b i-1) ((ß b g).length-1):=by omega
  rw[if_neg (by omega),if_neg (by omega),if_neg (by omega),if_neg (by omega),e]
  exact⟨rfl,rfl⟩
theorem aP2 {i:Nat} {g:ç}:ait b i g (off b i+1)=ait b i g (off b i)++[(0,(off b i:Int)+1,g.2.2.1+g.2.2.2.1.2),((off b i:Int)+1,0,-(g.2.2.1+g.2.2.2.1.1))]∧adt b i g (off b i+1)=adt b i g (off b i)++[(1,(i:Int)),(1,(i:Int))]:=by
 unfold ait adt
 rw[if_neg (by omega),if_pos (Nat.le_refl _),if_neg (by omega),if_pos (Nat.le_refl _),show off b i+1-off b i-1=0 by omega,Nat.zero_min]
 exact⟨by simp,by simp⟩
theorem aSk {i:Nat} {g:ç} {j:Nat} (hj:j+1<(ß b g).length):ait b i g (off b i+(j+1)+1)=ait b i g (off b i+(j+1))++[((off b i:Int)+1+j,(off b i:Int)+1+j+1,0),((off b i:Int)+1+j+1,(off b i:Int)+1+j,adE b g ((ß b g)[j]?.getD 0) ((ß b g)[j+1]?.getD 0))] ∧
 adt b i g (off b i+(j+1)+1)=adt b i g (off b i+(j+1))++[(2,(i:Int)),(2,(i:Int))]:=by
 unfold ait adt
 rw[if_neg (by omega),if_neg (by omega),if_neg (by omega),if_neg (by omega),show min (off b i+(j+1)+1-off b i-1) ((ß b g).length-1)=j+1 by omega,show min (off b i+(j+1)-off b i-1) ((ß b g).length-1)=j by omega,akr,akr]
 exact⟨by simp,by simp⟩
theorem aU8 (i:Nat) (g:ç) (k:Nat) (hd:(ß b g).length≤59):(ait b i g k).length≤120∧(adt b i g k).length≤120:=by
 unfold ait adt
 constructor
 ·split
  ·simp
  ·rw[List.length_append,ŧ _ _ (fun _=>rfl)]
   simp only[List.length_cons,List.length_nil]; omega
 ·split
  ·simp
  ·rw[List.length_append,ŧ _ _ (fun _=>rfl)]
   simp only[List.length_cons,List.length_nil]; omega
set_option maxHeartbeats 1000000 in
theorem aV8 (h:ğ b) {i:Nat} {g:ç} (hg:b.2.1[i]?=some g) {L:List Lk} {S:List (Int×Int)} (hL:L.length≤100000) (hS:S.length≤100000) (K:List Lk×List (Int×Int)→Option (List Lk×List (Int×Int))) :
 Ñ (fun(v21:Int×List Lk×List (Int×Int)) kk25=>ah9 (Ï b) (i:Int) b.1.1 b.1.2 b.2.1 b.2.2.1 b.2.2.2.1 b.2.2.2.2.1 b.2.2.2.2.2 g.1 g.2.1 g.2.2.1 g.2.2.2.1.1 g.2.2.2.1.2 v21.1 v21.2.1 v21.2.2 (fun u22 u23 u24=>kk25 (u22,u23,u24)) K) ((0:Int),L,S)=K (L++ó b g,S++ñ b i g):=by
 have hN:=h.nodes
 have hgm:=List.mem_of_getElem? hg
 have hdl:=awv h hgm
 have hp:=List.length_pos_of_mem (aeN (b:=b) g)
 have hr:=h.gaugeR hgm
 have r1:=hr.2.2.2.2.2.1
 have r2:=hr.2.2.2.2.2.2.1
 obtain⟨tl,htl⟩:=aFn h hgm
 refine ù (Ï b) (fun k=>(L++ait b i g k,S++adt b i g k)) _ (by simp[ait,adt]) (fun k n hk hn kn=>?_) (fun kn=>?_)
 ·try dsimp only
  unfold ah9
  have gl:=aU8 (b:=b) i g k hdl
  rw[Ô hk,É hn]
  obtain⟨i',g',j,d,h1,h2,h3,h4⟩:=aZn hk
  have hnd:n=(g'.1,d):=by rw[hn] at h4; exact Option.some.inj h4
  by_cases hsame:n.1=g.1
  ·obtain⟨hi',hgg⟩:=aUD h h1 hg (by rw[hnd] at hsame; exact hsame)
   subst hgg
   have hin:i'=i:=hi'
   rw[hin] at h3 h1
   rw[Ò (by simp[ine,hsame]),É hn]
   have hdn:n.2=d:=by rw[hnd]
   rw[hdn]
   cases j with
   | zero =>
     have hdd:d=g'.2.1:=by rw[htl] at h2; simpa using h2.symm
     have hk0:k=off b i:=by omega
     rw[Õ (by simp[ieq,hdd])]
     obtain⟨e1,e2⟩:=aP2 (b:=b) (i:=i) (g:=g')
     rw[←hk0] at e1 e2
     rw[Ì hk (by omega),Û (by omega) (by omega),Ì hk (by omega),Û (by omega) (by omega),Û (by omega) (by omega),Ù (by simp only[List.length_append,List.length_cons,List.length_nil]; omega),Am.iff_true,Ù (by simp only[List.length_append,List.length_cons,List.length_nil]; omega),Am.iff_true,Ì hk (by omega),e1,e2]
     have e3:0-g'.2.2.1-g'.2.2.2.1.1 = -(g'.2.2.1+g'.2.2.2.1.1):=by omega
     rw[e3]
     simp only[List.append_assoc]
   | succ j =>
     have hjl:=(List.getElem?_eq_some_iff.1 h2).1
     have hdd:d≠g'.2.1:=by
      have hp1:=amG b g'
      rw[htl] at h2 hp1
      rw[List.getElem?_cons_succ] at h2
      have:=(List.pairwise_cons.1 hp1).1 d (List.mem_of_getElem? h2)
      omega
     rw[Ò (by simpa[ieq] using hdd)]
     have hprev:(ß b g')[j]?=some ((ß b g')[j]?.getD 0):=by rw[List.getElem?_eq_getElem (by omega)]; rfl
     have hd':d=(ß b g')[j+1]?.getD 0:=by rw[h2]; rfl
     have hpn:=aBp h1 hprev
     have d1:=h.day hgm (List.mem_of_getElem? hprev)
     have d2:=h.day hgm (List.mem_of_getElem? h2)
     have hk0:k=off b i+(j+1):=h3
     obtain⟨e1,e2⟩:=aSk (b:=b) (i:=i) (g:=g') hjl
     rw[←hk0] at e1 e2
     have hkm:((k:Int)-1)=((off b i+j:Nat):Int):=by omega
     have lb:=aeZ h hgm (t:=d) d1.2.1
     rw[aFr (by omega) (by omega),hkm,É hpn,É hn,hdn]
     try dsimp only
     rw[show ale ((b.1.1,b.1.2),b.2.1,b.2.2.1,b.2.2.2.1,b.2.2.2.2.1,b.2.2.2.2.2) g'.1 ((ß b g')[j]?.getD 0) d=ale b g'.1 ((ß b g')[j]?.getD 0) d from rfl,a0v h (amq h.ids hgm) ⟨by omega,by omega⟩ (by omega),À,Ì hk (by omega),Ì hk (by omega),Ù (by simp only[List.length_append,List.length_cons,List.length_nil]; omega),Am.iff_true,Ù (by simp only[List.length_append,List.length_cons,List.length_nil]; omega),Am.iff_true,Ì hk (by omega),e1,e2,←hd']
     have e3:(off b i:Int)+1+(j:Int)=(k:Int):=by omega
     rw[e3]
     simp only[List.append_assoc]
  ·rw[Õ (by simp[ine,hsame]),Ì hk (by omega)]
   have hout:k<off b i∨off b i+(ß b g).length≤k:=by
    rcases Nat.lt_or_ge k (off b i) with hlt|hge
    ·exact .inl hlt
    ·rcases Nat.lt_or_ge k (off b i+(ß b g).length) with hlt2|hge2
     ·have:=aBp hg (k:=k-off b i) (List.getElem?_eq_getElem (by omega))
      rw[show off b i+(k-off b i)=k by omega,hn] at this
      exact absurd (by rw[Option.some.inj this]) hsame
     ·exact .inr hge2
   obtain⟨e1,e2⟩:=aP1 hout hp
   rw[e1,e2]
 ·try dsimp only
  unfold ah9
  rw[Ý]
  obtain⟨e1,e2⟩:=aU9 h hg
  rw[e1,e2]
end
end Go.Proofs.ZzM
end
noncomputable section
namespace Go.Proofs.ZzM
open Go Go.Am
theorem aP9 {α β:Type} {e:Nat→α→Option β}:∀{l:List α} {k i:Nat} {a:α} {b:β},(∀j c,j<i→l[j]?=some c→e (k+j) c=none)→l[i]?=some a→e (k+i) a=some b→ħ e k l=some b
 |[],_,_,_,_,_,ha,_=>by simp at ha
 | c :: t, k, 0, a, b, _, ha, hb => by
   simp only[List.getElem?_cons_zero,Option.some.injEq] at ha
   subst ha
   unfold ħ
   rw[Nat.add_zero] at hb
   rw[hb]
 | c :: t, k, i + 1, a, b, h, ha, hb => by
   unfold ħ
   have h0:=h 0 c (by omega) rfl
   rw[Nat.add_zero] at h0
   rw[h0]
   refine aP9 (i:=i) (fun j d hj hd=>?_) (by simpa using ha) (by rw[←hb]; congr 1; omega)
   have:=h (j+1) d (by omega) (by simpa using hd)
   rw[←this]
   congr 1
   omega
theorem as8 {ρ α β:Type} (l:List α) (e:Nat→α→Option β) (k0:β→Option ρ) (k1:Option ρ) {f:Int→(Int→Option ρ)→Option ρ}
 (h:∀(i:Nat) (a:α),i<l.length→l[i]?=some a→∀kn,f i kn=match e i a with|some b=>k0 b|none=>kn ((i:Int)+1))
 (hn:(∀j a,l[j]?=some a→e j a=none)→∀kn,f l.length kn=k1):Ñ f 0=match ħ e 0 l with|some b=>k0 b|none=>k1:=by
 refine ő (fun x:Int=>∃i:Nat,i≤l.length∧x=i∧∀j a,j<i→l[j]?=some a→e j a=none) (fun x=>l.length-x.toNat) ?_ ⟨0,by omega,rfl,fun j a hj=>by omega⟩
 rintro x ⟨i,hi,rfl,hp⟩
 rcases Nat.lt_or_ge i l.length with hlt|hge
 ·have ha:l[i]?=some l[i]:=List.getElem?_eq_getElem hlt
  cases hc:e i l[i] with
  | some b =>
    refine .inl fun kn=>?_
    rw[h i _ hlt ha,hc,aP9 (k:=0) (b:=b) (fun j c hj hc=>by rw[Nat.zero_add]; exact hp j c hj hc) ha (by rw[Nat.zero_add]; exact hc)]
  | none =>
    refine .inr ⟨((i+1:Nat):Int),⟨i+1,hlt,rfl,fun j a hj hja=>?_⟩,by simp only[Int.toNat_natCast]; omega,fun kn=>?_⟩
    ·rcases Nat.lt_or_ge j i with h1|h1
     ·exact hp j a h1 hja
     ·have:j=i:=by omega
      subst this
      rw[ha] at hja
      rw[←Option.some.inj hja]; exact hc
    ·rw[h i _ hlt ha,hc]
     simp
 ·have:i=l.length:=by omega
  subst this
  refine .inl fun kn=>?_
  have hall:∀j a,l[j]?=some a→e j a=none:=fun j a hja=>hp j a (List.getElem?_eq_some_iff.1 hja).1 hja
  rw[hn hall kn,adu.2 fun j a hja=>by rw[Nat.zero_add]; exact hall j a hja]
theorem aQf {e:Int}:aTU e=none↔e=0:=by
 unfold aTU
 split<;>simp_all
section
variable {b:á}
theorem aJh (h:ğ b):∀i,((b.2.1.take i).flatMap (ó b)).length≤1440∧(((b.2.1.take i).mapIdx (ñ b)).flatten).length≤1440:=by
 have hG:=h.nG
 have gl:∀g∈b.2.1,(ó b g).length≤120∧∀i,(ñ b i g).length≤120:=by
  intro g hg
  have:=awv h hg
  constructor
  ·unfold ó
   rw[List.length_append,ŧ _ _ (fun _=>rfl)]
   simp only[List.length_cons,List.length_nil]; omega
  ·intro i
   unfold ñ
   rw[List.length_append,ŧ _ _ (fun _=>rfl)]
   simp only[List.length_cons,List.length_nil]; omega
 have key:∀i,i≤b.2.1.length→((b.2.1.take i).flatMap (ó b)).length≤i*120∧(((b.2.1.take i).mapIdx (ñ b)).flatten).length≤i*120:=by
  intro i
  induction i with
  |zero=>intro _; simp
  | succ i ih =>
    intro hi
    have ih:=ih (by omega)
    have hg:b.2.1[i]?=some b.2.1[i]:=List.getElem?_eq_getElem hi
    have h2:=gl _ (List.mem_of_getElem? hg)
    have h3:=h2.2 i
    rw[adp _ hg,take_succ hg,List.flatMap_append,List.flatten_append,List.length_append,List.length_append]
    simp only[List.flatMap_cons,List.flatMap_nil,List.append_nil,List.flatten_cons,List.flatten_nil]
    omega
 intro i
 rcases Nat.lt_or_ge b.2.1.length i with h1|h1
 ·rw[List.take_of_length_le (by omega)]
  have:=key b.2.1.length (Nat.le_refl _)
  rw[List.take_length] at this
  omega
 ·have:=key i h1
  omega
set_option maxHeartbeats 1000000 in
theorem aYE (h:ğ b):amv b=some (Ú b,ř b):=by
 have hC:=h.nC
 have hG:=h.nG
 unfold amv aKD
 rw[awH h.pre,À]
 refine ù b.2.1 (fun i=>((b.2.1.take i).flatMap (ó b),((b.2.1.take i).mapIdx (ñ b)).flatten)) _ rfl (fun i g hi hg kn=>?_) (fun kn=>?_)
 ·try dsimp only
  unfold alG
  have hls:=aJh h i
  rw[Ô hi,É hg]
  refine Eq.trans (aV8 h hg (by omega) (by omega) _) ?_
  rw[Ì hi (by omega),adp _ hg,take_succ hg,List.flatMap_append,List.flatten_append]
  simp only[List.flatMap_cons,List.flatMap_nil,List.append_nil,List.flatten_cons,List.flatten_nil]
 ·try dsimp only
  unfold alG
  rw[Ý,List.take_length]
  dsimp only
  have hls:=aJh h b.2.1.length
  rw[List.take_length] at hls
  refine ù b.2.2.2.2.1 (fun i=>(b.2.1.flatMap (ó b)++(b.2.2.2.2.1.take i).flatMap (ā b),(b.2.1.mapIdx (ñ b)).flatten++((b.2.2.2.2.1.take i).mapIdx fun i _=>[((3:Int),(i:Int)),((3:Int),(i:Int))]).flatten)) _ (by simp) (fun i c hi hc kn=>?_) (fun kn=>?_)
  ·try dsimp only
   unfold alF
   have hcm:=List.mem_of_getElem? hc
   have hn:=(Α c).1 (h.nums hcm)
   have ha:=ĩ hn.2.2.2.2.2.1
   have hb:=ĩ hn.2.2.2.2.2.2
   have hcl:=aJx (b:=b) i (by omega)
   have sb:=ar4 h hcm
   rw[Ô hi,É hc,ayR (by omega) (by omega),À]
   rw[show χ ((b.1.1,b.1.2),b.2.1,b.2.2.1,b.2.2.2.1,b.2.2.2.2.1,b.2.2.2.2.2) (aAk c.2.2.1 c.2.2.2.1,c.2.1)=χ b (aAk c.2.2.1 c.2.2.2.1,c.2.1) from rfl,awI h.pre,À,ayR (by omega) (by omega),À]
   rw[show χ ((b.1.1,b.1.2),b.2.1,b.2.2.1,b.2.2.2.1,b.2.2.2.2.1,b.2.2.2.2.2) (aAk c.2.2.2.1 c.2.2.1,c.2.1)=χ b (aAk c.2.2.2.1 c.2.2.1,c.2.1) from rfl,awI h.pre,À]
   rw[show ald ((b.1.1,b.1.2),b.2.1,b.2.2.1,b.2.2.2.1,b.2.2.2.2.1,b.2.2.2.2.2) c=ald b c from rfl,a0u h.size h.film (h.cmpIn hcm),À]
   rw[Û (by omega) (by omega),Ù (by simp only[List.length_append,List.length_cons,List.length_nil]; omega),Am.iff_true,Ù (by simp only[List.length_append,List.length_cons,List.length_nil]; omega),Am.iff_true,Ì hi (by omega)]
   rw[adp _ hc,take_succ hc,List.flatMap_append,List.flatten_append,aXm h.pre,aXm h.pre]
   simp only[List.flatMap_cons,List.flatMap_nil,List.append_nil,List.flatten_cons,List.flatten_nil,List.append_assoc]
   rw[Int.zero_sub]
   rfl
  ·try dsimp only
   unfold alF
   rw[Ý,List.take_length]
   rfl
def aeO (b:á) (i:Nat) (c:Cmp):Int:=if !aAl c then 1 else if (b.2.2.2.2.1.take i).any (fun x=>x.1==c.1) then 6 else aqC b c
theorem aJr (hi:b.2.1.Pairwise fun a b=>a.1<b.1) (i:Nat) (c:Cmp):aeO b i c=ahG b (adl b) i c:=by
 unfold aeO ahG
 rw[aZh hi]
def a0Z (b:á):Int:=match (b.2.2.2.2.1.mapIdx (aeO b)).find? (fun e=>e != 0) with
 |some e=>e
 | none => match (b.2.2.2.2.2.map (aNj b)).find? (fun e => e != 0) with
   |some e=>e
   |none=>if 59<(Ï b).length then 2 else if 300<2*b.2.1.length+2*((Ï b).length-b.2.1.length:Int)+2*b.2.2.2.2.1.length then 2 else 0
theorem aXx {α:Type} {l:List α} {E:α→Int} (h:(l.map E).find? (fun e=>e != 0)=none):∀a∈l,E a=0:=by
 intro a ha
 have:=List.find?_eq_none.1 h (E a) (List.mem_map.2 ⟨a,ha,rfl⟩)
 simpa using this
theorem aVb {α:Type} {l:List α} {E:Nat→α→Int} (h:(l.mapIdx E).find? (fun e=>e != 0)=none):∀i a,l[i]?=some a→E i a=0:=by
 intro i a ha
 obtain⟨hi,rfl⟩:=List.getElem?_eq_some_iff.1 ha
 have:=List.find?_eq_none.1 h (E i l[i]) (List.mem_mapIdx.2 ⟨i,hi,rfl⟩)
 simpa using this
theorem aMM {i:Nat} {c:Cmp} (h:aeO b i c=0):aAl c=true∧(æ c.2.2.1 c.2.2.2.1).length≤1∧(æ c.2.2.2.1 c.2.2.1).length≤1:=by
 unfold aeO at h
 split at h
 ·omega
 rename_i h1
 split at h
 ·omega
 unfold aqC at h
 (repeat' split at h)<;>first|omega|exact⟨by simpa using h1,by omega,by omega⟩
set_option maxHeartbeats 4000000 in
theorem a0Y (hs:Ļ b) (hfilm:0≤b.1.1∧b.1.1≤b.1.2∧b.1.2≤1000000) (nG:b.2.1.length≤12) (nU:b.2.2.1.length≤40) (nL:b.2.2.2.1.length≤12) (nC:b.2.2.2.2.1.length≤40) (nK:b.2.2.2.2.2.length≤10)
 (hg:∀g∈b.2.1,ais g=true) (hi:b.2.1.Pairwise fun a b=>a.1<b.1) (hu:∀u∈b.2.2.1,aNj b u=0) (hl:∀i l,b.2.2.2.1[i]?=some l→aHU b i l=0) :
 Ñ (fun(v41:Int) kk43=>ad9 b.1.1 b.1.2 b.2.1 b.2.2.1 b.2.2.2.1 b.2.2.2.2.1 b.2.2.2.2.2 v41 (fun u42=>kk43 u42) (fun z26=>some z26) (fun _=>Ñ (fun(v38:Int) kk40=>ad8 b.1.1 b.1.2 b.2.1 b.2.2.1 b.2.2.2.1 b.2.2.2.2.1 b.2.2.2.2.2 v38 (fun u39=>kk40 u39) (fun z34=>some z34) (fun _=>Â (aej b) fun r36=>ifb (igt (Ü r36) (59:Int)) (some (2:Int)) (Â (amv b) fun r37=>ifb (igt (Ü r37.1) (300:Int)) (some (2:Int)) (some (0:Int))))) (0:Int))) (0:Int)=some (a0Z b):=by
 unfold a0Z
 refine Eq.trans (as8 b.2.2.2.2.1 (fun i c=>aTU (aeO b i c)) some (some (match (b.2.2.2.2.2.map (aNj b)).find? (fun e=>e != 0) with
  |some e=>e
  |none=>if 59<(Ï b).length then 2 else if 300<2*b.2.1.length+2*((Ï b).length-b.2.1.length:Int)+2*b.2.2.2.2.1.length then 2 else 0)) (fun i c hci hc kn=>?_) (fun hcz kn=>?_)) ?_
 ·try dsimp only
  unfold ad9
  have hp:=hs.piles c (List.mem_of_getElem? hc)
  rw[Ô hci,É hc,aYz (by omega) (by omega),À]
  unfold aeO aTU
  cases aAl c with
  |false=>rfl
  | true =>
    rw[Ò (by rfl)]
    have hl9:(b.2.2.2.2.1.take i).length=i:=by rw[List.length_take]; omega
    refine Eq.trans (ģ (b.2.2.2.2.1.take i) (fun x=>x.1==c.1) (fun _=>some 6) (some 6) (if aqC b c=0 then kn ((i:Int)+1) else some (aqC b c)) (fun _=>rfl) (fun j a hj ha kn'=>?_) (fun kn'=>?_)) ?_
    ·try dsimp only
     unfold ahu
     rw[hl9] at hj
     have ha':b.2.2.2.2.1[j]?=some a:=by rwa [List.getElem?_take_of_lt hj] at ha
     rw[Õ (show ilt (j:Int) (i:Int)=true by simp[ilt]; omega),É ha',É hc,Ì hj (by omega),ď]
    ·try dsimp only
     unfold ahu
     rw[hl9,Ò (show ilt (i:Int) (i:Int)=false by simp[ilt])]
     dsimp only
     rw[É hc,show aei ((b.1.1,b.1.2),b.2.1,b.2.2.1,b.2.2.2.1,b.2.2.2.2.1,b.2.2.2.2.2) c=aei b c from rfl,aQI hs hp.1 hp.2,À,Ì hci (by omega)]
     by_cases hz:aqC b c=0
     ·rw[Ò (by simp[ine,hz]),if_pos hz]
     ·rw[Õ (by simp[ine,hz]),if_neg hz]
    ·cases hany:(b.2.2.2.2.1.take i).any (fun x=>x.1==c.1) with
     |true=>simp
     | false =>
       by_cases hz:aqC b c=0
       ·simp[hz]
       ·simp[hz]
 ·try dsimp only
  unfold ad9
  rw[Ý]
  dsimp only
  have hcz':∀i c,b.2.2.2.2.1[i]?=some c→aeO b i c=0:=fun i c hc=>aQf.1 (hcz i c hc)
  refine Eq.trans (as8 b.2.2.2.2.2 (fun _ u=>aTU (aNj b u)) some (some (if 59<(Ï b).length then 2 else if 300<2*b.2.1.length+2*((Ï b).length-b.2.1.length:Int)+2*b.2.2.2.2.1.length then 2 else 0)) (fun i a hia ha kn'=>?_) (fun hlz kn'=>?_)) ?_
  ·try dsimp only
   unfold ad8
   rw[Ô hia,É ha,aNb,À]
   unfold aNj aTU
   cases awN a.2 with
   |false=>rfl
   | true =>
     rw[Ò (by rfl),É ha,É ha,awG (b:=((b.1.1,b.1.2),b.2.1,b.2.2.1,b.2.2.2.1,b.2.2.2.2.1,b.2.2.2.2.2)) (by simp only; omega),À,Ì hia (by omega)]
     have e:Ο ((b.1.1,b.1.2),b.2.1,b.2.2.1,b.2.2.2.1,b.2.2.2.2.1,b.2.2.2.2.2) a.1 a.2=Ο b a.1 a.2:=rfl
     rw[e]
     by_cases hz:Ο b a.1 a.2=0
     ·rw[Ò (by simp[ine,hz])]; simp[hz]
     ·rw[Õ (by simp[ine,hz])]; simp[hz]
  ·try dsimp only
   unfold ad8
   rw[Ý]
   dsimp only
   have hlz':∀u∈b.2.2.2.2.2,aNj b u=0:=fun u hum=>by
    obtain⟨j,hj,rfl⟩:=List.mem_iff_getElem.1 hum
    exact aQf.1 (hlz j _ (List.getElem?_eq_getElem hj))
   have pre:Pre b:=⟨hs,hg,fun c hc=>by
    obtain⟨j,hj,rfl⟩:=List.mem_iff_getElem.1 hc
    have q:=aMM (hcz' j _ (List.getElem?_eq_getElem hj))
    exact⟨aOh q.1,q.2⟩,fun n hn=>by
    have:=hlz' n hn
    unfold aNj at this
    split at this
    ·omega
    ·rename_i hd; simpa using hd⟩
   rw[awH pre,À,â]
   by_cases h59:59<(Ï b).length
   ·rw[Õ (by simp[igt]; omega),if_pos h59]
   ·rw[Ò (by simp[igt]; omega),if_neg h59]
    have good:ğ b:=⟨hfilm,nG,nU,nL,nC,nK,hg,hi,fun u hum=>by rw[←aS4 hi]; exact hu u hum,fun i l hil=>by rw[←aW9 hi]; exact hl i l hil,fun i c hic=>by rw[←aJr hi]; exact hcz' i c hic,fun u hum=>by rw[←aS4 hi]; exact hlz' u hum,by omega,by omega⟩
    have hll:=aER good
    rw[aYE good,À,â]
    dsimp only
    rw[hll,Ò (by simp[igt]; omega),if_neg (by omega)]
  ·rw[aE8]
   cases(b.2.2.2.2.2.map (aNj b)).find? (fun e=>e != 0)<;>rfl
 ·rw[aE7 (aeO b)]
  cases(b.2.2.2.2.1.mapIdx (aeO b)).find? (fun e=>e != 0)<;>rfl
end
end Go.Proofs.ZzM
end
noncomputable section
namespace Go.Proofs.ZzM
open Go Go.Am
theorem aMD {l m:List Int}:(l++m).find? (fun e=>e != 0)=match l.find? (fun e=>e != 0) with|some e=>some e|none=>m.find? (fun e=>e != 0):=by
 rw[List.find?_append]
 cases l.find? (fun e=>e != 0)<;>rfl
set_option maxHeartbeats 4000000 in
theorem awJ {b:á} (hs:Ļ b):age b=some (à b):=by
 unfold age axn à
 rw[amM,À]
 cases hsp:aer b.1 0 1000000 with
 |false=>rfl
 |true =>
 have hfilm:0≤b.1.1∧b.1.1≤b.1.2∧b.1.2≤1000000:=by
  simp only[aer,Bool.and_eq_true,decide_eq_true_eq] at hsp
  exact hsp
 rw[Ò (show(!true)=false from rfl),if_neg (by simp)]
 rw[â b.2.1,â b.2.2.1,â b.2.2.2.1,â b.2.2.2.2.1,â b.2.2.2.2.2]
 by_cases c0:12<b.2.1.length
 ·rw[Õ (by simp[igt]; omega),if_pos c0]
 rw[Ò (by simp[igt]; omega),if_neg c0]
 by_cases c1:40<b.2.2.1.length
 ·rw[Õ (by simp[igt]; omega),if_pos c1]
 rw[Ò (by simp[igt]; omega),if_neg c1]
 by_cases c2:12<b.2.2.2.1.length
 ·rw[Õ (by simp[igt]; omega),if_pos c2]
 rw[Ò (by simp[igt]; omega),if_neg c2]
 by_cases c3:40<b.2.2.2.2.1.length
 ·rw[Õ (by simp[igt]; omega),if_pos c3]
 rw[Ò (by simp[igt]; omega),if_neg c3]
 by_cases c4:10<b.2.2.2.2.2.length
 ·rw[Õ (by simp[igt]; omega),if_pos c4]
 rw[Ò (by simp[igt]; omega),if_neg c4]
 refine Eq.trans (as8 b.2.1 (ahf b.2.1) some (some (match (anE b (adl b)).find? (fun e=>e != 0) with
  |some e=>e
  |none=>if 59<(Ï b).length then 2 else if 300<2*b.2.1.length+2*((Ï b).length-b.2.1.length:Int)+2*b.2.2.2.2.1.length then 2 else 0)) (fun i g hi hg kn=>?_) (fun hz kn=>?_)) ?_
 ·try dsimp only
  unfold ahv
  rw[Ô hi,É hg,aYB,À]
  unfold ahf
  cases ais g with
  |false=>rfl
  | true =>
    rw[Ò (by rfl)]
    rcases Nat.eq_zero_or_pos i with h0|h0
    ·subst h0
     have:igt ((0:Nat):Int) 0=false:=by simp[igt]
     rw[Ò this,Ì hi (by omega)]
     simp[ati]
    ·obtain⟨q,hq⟩:=aty hi h0
     have h1:igt (i:Int) 0=true:=by simp[igt]; omega
     rw[Õ h1,É hg,aFr h0 (by omega),av7 h0 hq]
     simp only[ati,h0,decide_true,Bool.true_and,hq,Option.any_some]
     unfold ile
     cases h2:decide (g.1≤q.1) with
     |true=>simp
     |false=>rw[ã,Ì hi (by omega)]; simp
 ·try dsimp only
  unfold ahv
  rw[Ý]
  dsimp only
  have hg0:adZ b=0:=by
   unfold adZ
   rw[adu.2 fun j a ha=>by rw[Nat.zero_add]; exact hz j a ha]
   rfl
  obtain⟨hg,hi⟩:=(amo b).1 hg0
  have eu:b.2.2.1.map (aNj b)=b.2.2.1.map fun u=>aVU (adl b) u.1 u.2:=List.map_congr_left fun u _=>aS4 hi u
  have el:b.2.2.2.1.mapIdx (aHU b)=b.2.2.2.1.mapIdx fun i l=>aHV b (adl b) i l:=List.mapIdx_eq_mapIdx_iff.2 fun i hl=>aW9 hi i _
  have ec:b.2.2.2.2.1.mapIdx (aeO b)=b.2.2.2.2.1.mapIdx fun i c=>ahG b (adl b) i c:=List.mapIdx_eq_mapIdx_iff.2 fun i hc=>aJr hi i _
  have ek:b.2.2.2.2.2.map (aNj b)=b.2.2.2.2.2.map fun u=>aVU (adl b) u.1 u.2:=List.map_congr_left fun u _=>aS4 hi u
  unfold anE
  rw[←eu,←el,←ec,←ek,aMD,aMD,aMD,a0p hs,À]
  cases hue:(b.2.2.1.map (aNj b)).find? (fun e=>e != 0) with
  | some e =>
    have he:e≠0:=by have:=List.find?_some hue; simpa using this
    simp only[Option.getD_some]
    rw[Ò (by simpa[ieq] using he),Õ (by simpa[ine] using he)]
  | none =>
    simp only[Option.getD_none]
    rw[Õ (by rfl),aYA hs,À]
    cases hle:(b.2.2.2.1.mapIdx (aHU b)).find? (fun e=>e != 0) with
    | some e =>
      have he:e≠0:=by have:=List.find?_some hle; simpa using this
      simp only[Option.getD_some]
      rw[Õ (by simpa[ine] using he)]
    | none =>
      simp only[Option.getD_none]
      rw[Ò (by rfl)]
      refine Eq.trans (a0Y hs hfilm (by omega) (by omega) (by omega) (by omega) (by omega) hg hi (aXx hue) (aVb hle)) ?_
      unfold a0Z
      cases(b.2.2.2.2.1.mapIdx (aeO b)).find? (fun e=>e != 0)<;>rfl
 ·unfold adZ
  cases hf:ħ (ahf b.2.1) 0 b.2.1 with
  | none =>
    simp
    cases(anE b (adl b)).find? (fun e=>e != 0)<;>rfl
  | some e =>
    have he:adZ b=e:=by unfold adZ; rw[hf]; rfl
    have hne:e≠0:=by
     intro h0
     rw[h0] at he
     obtain⟨h1,h2⟩:=(amo b).1 he
     have h3:∀j a,b.2.1[j]?=some a→ahf b.2.1 j a=none:=by
      intro j a ha
      have h4:=(aM0 (fun g:ç=>g.1) b.2.1).2 h2 j a ha
      simp[ahf,h1 a (List.mem_of_getElem? ha),h4]
     rw[adu.2 fun j a ha=>by rw[Nat.zero_add]; exact h3 j a ha] at hf
     cases hf
    simp[hne]
end Go.Proofs.ZzM
end
noncomputable section
namespace Go.Proofs.ZzM
open Go Go.Am
theorem aJG {b:á} (h:ğ b):aiw b=some (((Ï b).length:Int)+1,Ú b):=by
 have hN:=h.nodes
 unfold aiw asu
 rw[awH h.pre,À,â,Û (by omega) (by omega),aYE h,À]
end Go.Proofs.ZzM
end
noncomputable section
namespace Go.Proofs.ZzM
open Go Go.Am
theorem aM5 {ρ α:Type} (l:List α) (p:α→Bool) (K:Bool→Option ρ) {f:Bool×Int→(Bool×Int→Option ρ)→Option ρ} (b0:Bool)
 (h:∀(i:Nat) (a:α) (v:Bool),i<l.length→l[i]?=some a→∀kn,f (v,i) kn=kn ((v||p a),(i:Int)+1)) (hn:∀v kn,f (v,l.length) kn=K v):Ñ f (b0,(0:Int))=K (b0||l.any p):=by
 refine ő (fun v=>∃i:Nat,i≤l.length∧v=((b0||(l.take i).any p),(i:Int))) (fun v=>l.length-v.2.toNat) ?_ ⟨0,by omega,by simp⟩
 rintro v ⟨i,hi,rfl⟩
 rcases Nat.lt_or_ge i l.length with h2|h2
 ·have hg:l[i]?=some l[i]:=List.getElem?_eq_getElem h2
  refine .inr ⟨((b0||(l.take (i+1)).any p),((i+1:Nat):Int)),⟨i+1,h2,rfl⟩,by dsimp only; omega,fun kn=>?_⟩
  rw[h i _ _ h2 hg,take_succ hg,List.any_append]
  simp[Bool.or_assoc]
 ·refine .inl fun kn=>?_
  obtain rfl:i=l.length:=by omega
  rw[hn,List.take_length]
theorem aQL {l m:List Int} (hn:l.length≤1000000):afz l m=some (decide (l=m)):=by
 unfold afz alJ
 rw[â,â]
 by_cases hl:l.length=m.length
 ·rw[Ò (by simp[ine,hl])]
  refine Eq.trans (aec l (fun i a=>if m[i]?=some a then none else some false) some (some true) (fun i a hi ha kn=>?_) (fun kn=>?_)) ?_
  ·try dsimp only
   unfold aeI
   have hm:m[i]?=some m[i]:=List.getElem?_eq_getElem (by omega)
   rw[Ô hi,É ha,É hm,Ì hi (by omega),hm,ď]
   by_cases h:a=m[i]
   ·simp[ine,h]
   ·have h':¬m[i]=a:=fun e=>h e.symm
    simp[ine,h,h']
  ·try dsimp only
   unfold aeI
   rw[Ý]
  ·cases h:ħ (fun i a=>if m[i]?=some a then none else some false) 0 l with
   |none=>simp[aND hl h]
   | some b =>
     obtain⟨h1,h2⟩:=aNC h
     rw[h1,decide_eq_false h2]
 ·rw[Õ (bne_iff_ne.2 (by omega)),decide_eq_false (fun e=>hl (by rw[e]))]
theorem aYK {c d:Cmp} (hA:c.2.2.1.length≤1000) (hB:c.2.2.2.1.length≤1000):aeL c d=some (decide (c=d)):=by
 unfold aeL ag2
 have hsplit:(c=d)↔(c.1=d.1∧c.2.1=d.2.1∧c.2.2.2.2.1=d.2.2.2.2.1∧c.2.2.2.2.2.1=d.2.2.2.2.2.1∧(c.2.2.2.2.2.2.1=d.2.2.2.2.2.2.1∧c.2.2.2.2.2.2.2=d.2.2.2.2.2.2.2)∧c.2.2.1=d.2.2.1∧c.2.2.2.1=d.2.2.2.1):=by
  simp only[Prod.ext_iff]
  constructor
  ·rintro⟨a1,a2,a3,a4,a5,a6,a7,a8⟩; exact⟨a1,a2,a5,a6,⟨a7,a8⟩,a3,a4⟩
  ·rintro⟨a1,a2,a5,a6,⟨a7,a8⟩,a3,a4⟩; exact⟨a1,a2,a3,a4,a5,a6,a7,a8⟩
 rw[aQL (by omega),À,aQL (by omega),À]
 have hno:∀{P:Prop},¬P→(c=d→P)→some (decide (c=d))=some false:=fun h1 h2=>by rw[decide_eq_false fun h=>h1 (h2 h)]
 by_cases a1:c.1=d.1
 case neg=>rw[hno a1 (fun e=>(hsplit.1 e).1),Ò (beq_eq_false_iff_ne.2 a1)]
 rw[Õ (beq_iff_eq.2 a1)]
 by_cases a2:c.2.1=d.2.1
 case neg=>rw[hno a2 (fun e=>(hsplit.1 e).2.1),Ò (beq_eq_false_iff_ne.2 a2)]
 rw[Õ (beq_iff_eq.2 a2)]
 by_cases a3:c.2.2.2.2.1=d.2.2.2.2.1
 case neg=>rw[hno a3 (fun e=>(hsplit.1 e).2.2.1),Ò (beq_eq_false_iff_ne.2 a3)]
 rw[Õ (beq_iff_eq.2 a3)]
 by_cases a4:c.2.2.2.2.2.1=d.2.2.2.2.2.1
 case neg=>rw[hno a4 (fun e=>(hsplit.1 e).2.2.2.1),Ò (beq_eq_false_iff_ne.2 a4)]
 rw[Õ (beq_iff_eq.2 a4)]
 by_cases a5:c.2.2.2.2.2.2.1=d.2.2.2.2.2.2.1∧c.2.2.2.2.2.2.2=d.2.2.2.2.2.2.2
 case neg=>rw[hno a5 (fun e=>(hsplit.1 e).2.2.2.2.1),Ò (by simp only[û,Bool.and_true,Bool.and_eq_false_iff,decide_eq_false_iff_not]; exact Decidable.not_and_iff_or_not.1 a5)]
 rw[Õ (by simp[û,a5.1,a5.2])]
 by_cases a6:c.2.2.1=d.2.2.1
 case neg=>rw[hno a6 (fun e=>(hsplit.1 e).2.2.2.2.2.1),Ò (decide_eq_false a6)]
 rw[Õ (decide_eq_true a6)]
 congr 1
 exact decide_eq_decide.2 ⟨fun h=>hsplit.2 ⟨a1,a2,a3,a4,a5,a6,h⟩,fun h=>(hsplit.1 h).2.2.2.2.2.2⟩
theorem aVO {b:á} (hn:b.2.1.length≤1000) (g:ç):ahU b g=some (aiT g b.2.1):=by
 unfold ahU axa
 refine(ģ b.2.1 (fun a=>decide (g=a)) (fun _=>some true) (some true) (some false) (fun _=>rfl) (fun i a hi ha kn=>?_) (fun kn=>?_)).trans ?_
 ·try dsimp only
  unfold ahm
  have e:((û a.1 g.1)&&((û a.2.1 g.2.1)&&((û a.2.2.1 g.2.2.1)&&((û a.2.2.2.1.1 g.2.2.2.1.1)&&((û a.2.2.2.1.2 g.2.2.2.1.2)&&((û a.2.2.2.2.1.1 g.2.2.2.2.1.1)&&((û a.2.2.2.2.1.2 g.2.2.2.2.1.2)&&((û a.2.2.2.2.2 g.2.2.2.2.2)&&true))))))))=decide (g=a):=by
   rw[Bool.eq_iff_iff]
   simp only[û,Bool.and_true,Bool.and_eq_true,decide_eq_true_eq,Prod.ext_iff]
   exact⟨fun⟨h1,h2,h3,h4,h5,h6,h7,h8⟩=>⟨h1.symm,h2.symm,h3.symm,⟨h4.symm,h5.symm⟩,⟨h6.symm,h7.symm⟩,h8.symm⟩,fun⟨h1,h2,h3,⟨h4,h5⟩,⟨h6,h7⟩,h8⟩=>⟨h1.symm,h2.symm,h3.symm,h4.symm,h5.symm,h6.symm,h7.symm,h8.symm⟩⟩
  rw[Ô hi,É ha,Ì hi (by omega),ď,e]
 ·try dsimp only
  unfold ahm
  rw[Ý]
 ·unfold aiT
  cases b.2.1.any fun a=>decide (g=a)<;>rfl
theorem aJH {b:á} (hn:b.2.1.length≤1000) (id:Int):aeh b id=some ((av9 b).contains id):=by
 unfold aeh aw9
 refine(ģ b.2.1 (fun g=>g.1==id) (fun _=>some true) (some true) (some false) (fun _=>rfl) (fun i a hi ha kn=>?_) (fun kn=>?_)).trans ?_
 ·try dsimp only
  unfold ahl
  rw[Ô hi,É ha,Ì hi (by omega),ď]
 ·try dsimp only
  unfold ahl
  rw[Ý]
 ·have:(av9 b).contains id=b.2.1.any fun g=>g.1==id:=by
   unfold av9
   rw[Bool.eq_iff_iff]
   simp only[List.contains_iff_mem,List.mem_map,List.any_eq_true,beq_iff_eq]
  rw[this]
  cases b.2.1.any fun g=>g.1==id<;>rfl
def aF1 (a b s:á):Bool:=ω a.2.2.1 b.2.2.1 (fun u=>(av9 s).contains u.1)&&ω a.2.2.2.1 b.2.2.2.1 (fun u=>(av9 s).contains u.1)
theorem aBK {ρ α:Type} (l:List α) (p:α→Bool) (k0:Bool→Option ρ) (K:Option ρ) {f:Int→(Int→Option ρ)→Option ρ}
 (h:∀(i:Nat) (a:α),i<l.length→l[i]?=some a→∀kn,f i kn=if p a then kn ((i:Int)+1) else k0 false) (hn:∀kn,f l.length kn=K):Ñ f 0=if l.all p then K else k0 false:=by
 refine(ģ l (fun a=>!p a) (fun _=>k0 false) (k0 false) K (fun _=>rfl) (fun i a hi ha kn=>?_) hn).trans ?_
 ·rw[h i a hi ha kn]
  cases p a<;>rfl
 ·rw[List.all_eq_not_any_not]
  cases l.any fun a=>!p a<;>rfl
theorem aQJ {a b s:á} (ha:Ļ a) (hb:Ļ b) (hs:Ļ s):ao6 a b s=some (aF1 a b s):=by
 have a1:=ha.uses; have a2:=ha.loans; have b1:=hb.uses; have b2:=hb.loans; have s1:=hs.gauges
 unfold ao6 aCD aF1 ω
 refine(aBK a.2.2.1 (fun u=>!(av9 s).contains u.1||aiT u b.2.2.1) some (some (a.2.2.2.1.all fun u=>!(av9 s).contains u.1||aiT u b.2.2.2.1)) (fun i u hi hu kn=>?_) (fun kn=>?_)).trans ?_
 rotate_right
 ·cases a.2.2.1.all fun u=>!(av9 s).contains u.1||aiT u b.2.2.1<;>rfl
 ·try dsimp only
  unfold aiX
  rw[Ô hi,É hu,show aeh ((s.1.1,s.1.2),s.2.1,s.2.2.1,s.2.2.2.1,s.2.2.2.2.1,s.2.2.2.2.2) u.1=aeh s u.1 from rfl,aJH s1,À]
  refine(aM5 b.2.2.1 (fun x=>decide (u=x)) (fun z7=>ifb (!z7) (some false) (ck ((i:Int)+(1:Int)) fun n8=>kn n8)) (!(av9 s).contains u.1) (fun j x v hj hx kn'=>?_) (fun v kn'=>?_)).trans ?_
  ·try dsimp only
   unfold aiW
   rw[Ô hj]
   cases v with
   |true=>rw[Ġ,Ì hj (by omega)]; rfl
   | false =>
     have e:((û x.1 u.1)&&((û x.2 u.2)&&true))=decide (u=x):=by
      rw[Bool.eq_iff_iff]
      simp only[û,Bool.and_true,Bool.and_eq_true,decide_eq_true_eq,Prod.ext_iff]
      exact⟨fun⟨h1,h2⟩=>⟨h1.symm,h2.symm⟩,fun⟨h1,h2⟩=>⟨h1.symm,h2.symm⟩⟩
     rw[ã,É hx,É hu,Ì hj (by omega),e]; rfl
  ·try dsimp only
   unfold aiW
   rw[Ý]
  ·rw[Ì hi (by omega),show(b.2.2.1.any fun x=>decide (u=x))=aiT u b.2.2.1 from rfl]
   cases(!(av9 s).contains u.1||aiT u b.2.2.1)<;>rfl
 ·try dsimp only
  unfold aiX
  rw[Ý]
  dsimp only
  refine(aBK a.2.2.2.1 (fun u=>!(av9 s).contains u.1||aiT u b.2.2.2.1) some (some true) (fun i u hi hu kn=>?_) (fun kn=>?_)).trans ?_
  rotate_right
  ·cases a.2.2.2.1.all fun u=>!(av9 s).contains u.1||aiT u b.2.2.2.1<;>rfl
  ·try dsimp only
   unfold aiV
   rw[Ô hi,É hu,show aeh ((s.1.1,s.1.2),s.2.1,s.2.2.1,s.2.2.2.1,s.2.2.2.2.1,s.2.2.2.2.2) u.1=aeh s u.1 from rfl,aJH s1,À]
   refine(aM5 b.2.2.2.1 (fun x=>decide (u=x)) (fun z7=>ifb (!z7) (some false) (ck ((i:Int)+(1:Int)) fun n8=>kn n8)) (!(av9 s).contains u.1) (fun j x v hj hx kn'=>?_) (fun v kn'=>?_)).trans ?_
   ·try dsimp only
    unfold aiU
    rw[Ô hj]
    cases v with
    |true=>rw[Ġ,Ì hj (by omega)]; rfl
    | false =>
      have e:((û x.1 u.1)&&((û x.2.1.1 u.2.1.1)&&((û x.2.1.2 u.2.1.2)&&((û x.2.2 u.2.2)&&true))))=decide (u=x):=by
       rw[Bool.eq_iff_iff]
       simp only[û,Bool.and_true,Bool.and_eq_true,decide_eq_true_eq,Prod.ext_iff]
       exact⟨fun⟨h1,h2,h3,h4⟩=>⟨h1.symm,⟨h2.symm,h3.symm⟩,h4.symm⟩,fun⟨h1,⟨h2,h3⟩,h4⟩=>⟨h1.symm,h2.symm,h3.symm,h4.symm⟩⟩
      rw[ã,É hx,É hu,Ì hj (by omega),e]; rfl
   ·try dsimp only
    unfold aiU
    rw[Ý]
   ·rw[Ì hi (by omega),show(b.2.2.2.1.any fun x=>decide (u=x))=aiT u b.2.2.2.1 from rfl]
    cases(!(av9 s).contains u.1||aiT u b.2.2.2.1)<;>rfl
  ·try dsimp only
   unfold aiV
   rw[Ý]
theorem aQK {s b:á} (hs:Ļ s) (hb:Ļ b):ï s b=some (aF6 s b):=by
 have s1:=hs.gauges; have s4:=hs.compares; have b1:=hb.gauges; have b4:=hb.compares
 have e0:aF6 s b=(decide (s.1=b.1)&&((s.2.1.all fun g=>aiT g b.2.1)&&((s.2.2.2.2.1.all fun c=>aiT c b.2.2.2.2.1)&&(aF1 s b s&&aF1 b s s)))):=by
  have q1:(ω s.2.1 b.2.1 fun _=>true)=s.2.1.all fun g=>aiT g b.2.1:=rfl
  have q2:(ω s.2.2.2.2.1 b.2.2.2.2.1 fun _=>true)=s.2.2.2.2.1.all fun c=>aiT c b.2.2.2.2.1:=rfl
  unfold aF6 aF1
  rw[q1,q2]
  generalize (s.2.1.all fun g=>aiT g b.2.1)=x1
  generalize (s.2.2.2.2.1.all fun c=>aiT c b.2.2.2.2.1)=x2
  generalize decide (s.1=b.1)=x3
  generalize (ω s.2.2.1 b.2.2.1 fun u=>(av9 s).contains u.1)=x4
  generalize (ω b.2.2.1 s.2.2.1 fun u=>(av9 s).contains u.1)=x5
  generalize (ω s.2.2.2.1 b.2.2.2.1 fun u=>(av9 s).contains u.1)=x6
  generalize (ω b.2.2.2.1 s.2.2.2.1 fun u=>(av9 s).contains u.1)=x7
  cases x1<;>cases x2<;>cases x3<;>cases x4<;>cases x5<;>cases x6<;>cases x7<;>rfl
 rw[e0]
 unfold ï aCJ
 by_cases hf:s.1=b.1
 case neg =>
  have ef:(!((û s.1.1 b.1.1)&&((û s.1.2 b.1.2)&&true)))=true:=by
   rw[Prod.ext_iff] at hf
   simp[û]
   omega
  rw[ef,Ġ,decide_eq_false hf]
  rfl
 have ef:(!((û s.1.1 b.1.1)&&((û s.1.2 b.1.2)&&true)))=false:=by simp[û,hf]
 rw[ef,ã,decide_eq_true hf,Bool.true_and]
 refine(aBK s.2.1 (fun g=>aiT g b.2.1) some (some ((s.2.2.2.2.1.all fun c=>aiT c b.2.2.2.2.1)&&(aF1 s b s&&aF1 b s s))) (fun i g hi hg kn=>?_) (fun kn=>?_)).trans ?_
 rotate_right
 ·cases s.2.1.all fun g=>aiT g b.2.1<;>rfl
 ·try dsimp only
  unfold ai1
  rw[Ô hi,É hg,show ahU ((b.1.1,b.1.2),b.2.1,b.2.2.1,b.2.2.2.1,b.2.2.2.2.1,b.2.2.2.2.2) g=ahU b g from rfl,aVO b1,À,Ì hi (by omega)]
  cases aiT g b.2.1<;>rfl
 ·try dsimp only
  unfold ai1
  rw[Ý]
  dsimp only
  refine(aBK s.2.2.2.2.1 (fun c=>aiT c b.2.2.2.2.1) some (some (aF1 s b s&&aF1 b s s)) (fun i c hi hc kn=>?_) (fun kn=>?_)).trans ?_
  rotate_right
  ·cases s.2.2.2.2.1.all fun c=>aiT c b.2.2.2.2.1<;>rfl
  ·try dsimp only
   unfold ai0
   have hp:=hs.piles c (List.mem_of_getElem? hc)
   rw[Ô hi]
   refine(aM5 b.2.2.2.2.1 (fun x=>decide (c=x)) (fun z7=>ifb (!z7) (some false) (ck ((i:Int)+(1:Int)) fun n8=>kn n8)) false (fun j x v hj hx kn'=>?_) (fun v kn'=>?_)).trans ?_
   ·try dsimp only
    unfold aiZ
    rw[Ô hj]
    cases v with
    |true=>rw[Ġ,Ì hj (by omega)]; rfl
    |false=>rw[ã,É hc,É hx,aYK hp.1 hp.2,À,Ì hj (by omega)]; rfl
   ·try dsimp only
    unfold aiZ
    rw[Ý]
   ·rw[Ì hi (by omega),Bool.false_or,show(b.2.2.2.2.1.any fun x=>decide (c=x))=aiT c b.2.2.2.2.1 from rfl]
    cases aiT c b.2.2.2.2.1<;>rfl
  ·try dsimp only
   unfold ai0
   rw[Ý]
   dsimp only
   rw[aQJ hs hb hs,À,aQJ hb hs hs,À]
   cases aF1 s b s<;>rfl
def aIb (L:List Lk):Int→Int→List Int→Int×Int×Bool
 |u,s,[]=>(s,u,true)
 |u,s,i::t=>if ad2 L i=true∨(L[i.toNat]?.getD (0,0,0)).1≠u then(0,0,false) else aIb L (L[i.toNat]?.getD (0,0,0)).2.1 (s+(L[i.toNat]?.getD (0,0,0)).2.2) t
theorem ato {L:List Lk}:∀(l:List Int) (u s:Int),(∀i∈l,ad2 L i=false)→aIb L u s l=((ajO L u s l).2.1,(ajO L u s l).1,(ajO L u s l).2.2)
 |[],u,s,_=>rfl
 | i :: t, u, s, h => by
   unfold aIb ajO
   have h1:=h i (by simp)
   by_cases hc:(L[i.toNat]?.getD (0,0,0)).1=u
   ·rw[if_neg (by simp[h1,hc]),if_pos hc]
    exact ato t _ _ fun j hj=>h j (by simp[hj])
   ·rw[if_pos (.inr hc),if_neg hc]
theorem aTb {L:List Lk}:∀(l:List Int) (u s:Int),(∃i∈l,ad2 L i=true)→(aIb L u s l).2.2=false
 |[],u,s,⟨i,h,_⟩=>by simp at h
 | i :: t, u, s, ⟨j, hj, hb⟩ => by
   unfold aIb
   split
   ·rfl
   ·rename_i h1
    rcases List.mem_cons.1 hj with rfl|hj
    ·exact absurd (.inl hb) h1
    ·exact aTb t _ _ ⟨j,hj,hb⟩
section
variable {L:List Lk} {N:Nat}
theorem aSR (hS:adx L N) (u:Int) {l:List Int} (hl:l.length≤90):ap1 ((N:Int),L) u l=some (aIb L u 0 l):=by
 have hl3:=hS.len
 unfold ap1 aKT
 dsimp only
 have:=aio (f:=fun(v7:Int×Int×Int) kk11=>alI l L v7.1 v7.2.1 v7.2.2 (fun u8 u9 u10=>kk11 (u8,u9,u10)) (fun z5=>some (z5.1,z5.2.1,z5.2.2)) (fun z6=>some (z6.2,z6.1,true)))
  (F:=fun v=>some (aIb L v.1 v.2.1 (l.drop v.2.2.toNat))) (fun v=>∃i:Nat,v.2.2=i∧i≤l.length∧(-(i*4503599627370496)≤v.2.1∧v.2.1≤i*4503599627370496)) (fun v=>l.length-v.2.2.toNat) (fun v hv kn hk=>?_) (x:=(u,(0:Int),(0:Int))) ⟨0,rfl,by omega,by simp⟩
 ·exact this
 ·obtain⟨w,s,n⟩:=v
  obtain⟨i,e,h1,h2⟩:=hv
  dsimp only at e h2 hk ⊢
  subst e
  rw[Int.toNat_natCast] at hk ⊢
  unfold alI
  rcases Nat.lt_or_ge i l.length with h3|h3
  ·have ha:l[i]?=some l[i]:=List.getElem?_eq_getElem h3
   have hd:l.drop i=l[i]::l.drop (i+1):=List.drop_eq_getElem_cons h3
   rw[hd]
   generalize l[i]=a at ha
   rw[Ô h3]
   simp only[É ha]
   unfold aIb
   by_cases c1:a<0
   ·rw[Õ (decide_eq_true c1),if_pos (.inl (by simp[ad2,c1]))]
   rw[Ò (decide_eq_false c1),â]
   by_cases c2:(L.length:Int)≤a
   ·rw[Õ (decide_eq_true c2),if_pos (.inl (by simp[ad2,c2]))]
   rw[Ò (decide_eq_false (by omega))]
   have hg:L[a.toNat]?=some L[a.toNat]:=List.getElem?_eq_getElem (by omega)
   have hm:=hS.most _ (List.mem_of_getElem? hg)
   generalize L[a.toNat]=x at hg hm
   simp only[aed (show 0≤a by omega) hg]
   rw[hg]
   simp only[Option.getD_some]
   have hb:ad2 L a=false:=by simp[ad2]; omega
   by_cases hc:x.1=w
   ·rw[Ò (by rw[hc]; exact bne_self_eq_false' _),if_neg (by simp[hb,hc]),Û (by omega) (by omega),Ì h3 (by omega),hk _ ⟨i+1,by push_cast; rfl,h3,by dsimp only; push_cast; omega⟩ (by simp; omega)]
    simp
   ·rw[Õ (bne_iff_ne.2 hc),if_pos (.inr hc)]
  ·obtain rfl:i=l.length:=by omega
   rw[Ý,List.drop_length]
   rfl
theorem aSS (N:Int) (hL:L.length≤1000) {l:List Int} (hl:l.length≤90):ajI (N,L) l=some (!l.any (ad2 L)):=by
 unfold ajI aod
 refine(ģ l (ad2 L) (fun _=>some false) (some false) (some true) (fun _=>rfl) (fun i a hi ha kn=>?_) (fun kn=>?_)).trans ?_
 ·try dsimp only
  unfold afs ad2
  simp only[É ha]
  rw[Ô hi,Ì hi (by omega),â,ď,ď]
  by_cases h1:a<0
  ·simp[ilt,h1]
  ·by_cases h2:(L.length:Int)≤a
   ·simp[ilt,ige,h1,h2]
   ·simp[ilt,ige,h1,h2]
 ·try dsimp only
  unfold afs
  rw[Ý]
 ·cases l.any (ad2 L)<;>rfl
theorem aQm (u v n:Int) (l:List Int):Ĉ L u v l=(n,0)↔l.length≤80∧(aIb L u 0 l).2.2=true∧(aIb L u 0 l).2.1=v∧(aIb L u 0 l).1=n:=by
 unfold Ĉ ε
 by_cases h:80<l.length
 ·rw[if_pos h,if_pos (by omega)]
  simp only[Prod.mk.injEq]
  constructor
  ·rintro⟨_,h2⟩; omega
  ·rintro⟨h2,_⟩; omega
 ·rw[if_neg h]
  cases ha:l.any (ad2 L) with
  | true =>
    obtain⟨i,hi,hb⟩:=List.any_eq_true.1 ha
    have:=aTb l u 0 ⟨i,hi,hb⟩
    rw[this]
    simp
  | false =>
    have hall:∀i∈l,ad2 L i=false:=fun i hi=>Bool.eq_false_iff.2 (List.any_eq_false.1 ha i hi)
    rw[ato l u 0 hall]
    dsimp only
    simp only[Bool.false_eq_true,if_false,ne_eq,not_true_eq_false]
    constructor
    ·intro h2
     split at h2
     ·rename_i h3
      simp only[Prod.mk.injEq,and_true] at h2
      exact⟨by omega,h3.1,h3.2,h2⟩
     ·simp at h2
    ·rintro⟨_,h3,h4,h5⟩
     rw[if_pos ⟨h3,h4⟩,h5]
end
theorem a0U {L:List Lk} {N:Nat} (hS:adx L N) (u:Int) {l:List Int} (hl:l.length≤90) : -1000000000000000000≤(aIb L u 0 l).1∧(aIb L u 0 l).1≤1000000000000000000:=by
 cases ha:l.any (ad2 L) with
 | true =>
   have:∀(l:List Int) (u s:Int),(∃i∈l,ad2 L i=true)→(aIb L u s l).1=0:=by
    intro l
    induction l with
    |nil=>rintro u s ⟨i,h,_⟩; simp at h
    | cons i t ih =>
      rintro u s ⟨j,hj,hb⟩
      unfold aIb
      split
      ·rfl
      ·rename_i h1
       rcases List.mem_cons.1 hj with rfl|hj
       ·exact absurd (.inl hb) h1
       ·exact ih _ _ ⟨j,hj,hb⟩
   obtain⟨i,hi,hb⟩:=List.any_eq_true.1 ha
   rw[this l u 0 ⟨i,hi,hb⟩]
   omega
 | false =>
   rw[ato l u 0 fun i hi=>Bool.eq_false_iff.2 (List.any_eq_false.1 ha i hi)]
   have:=aQW hS l u 0 0 (by simp)
   dsimp only
   omega
theorem aH5 {c:aUt} (hs:Ļ c.1) (hl:c.2.2.2.2.length≤90):ĝ c=some (aek c):=by
 unfold ĝ ajS aek
 rw[awJ hs,À]
 by_cases hc:à c.1=0
 case neg=>rw[Õ (bne_iff_ne.2 hc),if_pos hc]
 have hg:=(ð c.1).1 hc
 have hS:=hg.sys
 rw[Ò (by rw[hc]; rfl),if_neg (by simp[hc]),awI hg.pre,À]
 by_cases h0:ak7 c.1 c.2.1.1 c.2.1.2=0
 ·rw[Õ (beq_iff_eq.2 h0),if_pos h0]
 rw[Ò (beq_eq_false_iff_ne.2 h0),if_neg h0]
 have hbound:apW c=some (if c.2.2.1 then decide (Ĉ (Ú c.1) 0 (ak7 c.1 c.2.1.1 c.2.1.2) c.2.2.2.2=(c.2.2.2.1,0)) else decide (Ĉ (Ú c.1) (ak7 c.1 c.2.1.1 c.2.1.2) 0 c.2.2.2.2=(-c.2.2.2.1,0))):=by
  unfold apW axc
  rw[aJG hg,À,awI hg.pre,À,â,show(((Ï c.1).length:Int)+1,Ú c.1)=((((Ï c.1).length+1:Nat):Int),Ú c.1) by push_cast; rfl]
  have key:∀(u v n:Int),(ifb (ile (c.2.2.2.2.length:Int) (80:Int)) (ifb (aIb (Ú c.1) u 0 c.2.2.2.2).2.2 (ifb (ieq (aIb (Ú c.1) u 0 c.2.2.2.2).2.1 v) (some (ieq (aIb (Ú c.1) u 0 c.2.2.2.2).1 n)) (some false)) (some false)) (some false))=some (decide (Ĉ (Ú c.1) u v c.2.2.2.2=(n,0))):=by
   intro u v n
   have hiff:=aQm (L:=Ú c.1) u v n c.2.2.2.2
   by_cases h1:c.2.2.2.2.length≤80
   ·rw[Õ (decide_eq_true (by omega))]
    cases h2:(aIb (Ú c.1) u 0 c.2.2.2.2).2.2 with
    |false=>rw[ã,decide_eq_false fun h=>by have:=(hiff.1 h).2.1; rw[h2] at this; cases this]
    | true =>
      rw[Ġ]
      by_cases h3:(aIb (Ú c.1) u 0 c.2.2.2.2).2.1=v
      ·rw[Õ (beq_iff_eq.2 h3)]
       congr 1
       rw[Bool.eq_iff_iff]
       simp only[ieq,beq_iff_eq,decide_eq_true_eq]
       exact⟨fun h=>hiff.2 ⟨h1,h2,h3,h⟩,fun h=>(hiff.1 h).2.2.2⟩
      ·rw[Ò (beq_eq_false_iff_ne.2 h3),decide_eq_false fun h=>h3 (hiff.1 h).2.2.1]
   ·rw[Ò (decide_eq_false (by omega)),decide_eq_false fun h=>h1 (hiff.1 h).1]
  cases hu:c.2.2.1 with
  | true =>
    rw[Bool.not_true,ã,aSR hS 0 hl,À,if_pos rfl]
    exact key _ _ _
  | false =>
    rw[Bool.not_false,Ġ,if_neg (by simp)]
    have hb:=a0U hS (ak7 c.1 c.2.1.1 c.2.1.2) hl
    have hout:(c.2.2.2.1 < -1152921504606846976∨1152921504606846976<c.2.2.2.1)→decide (Ĉ (Ú c.1) (ak7 c.1 c.2.1.1 c.2.1.2) 0 c.2.2.2.2=(-c.2.2.2.1,0))=false:=fun ho=>decide_eq_false fun h=>by
     have:=((aQm (L:=Ú c.1) (ak7 c.1 c.2.1.1 c.2.1.2) 0 (-c.2.2.2.1) c.2.2.2.2).1 h).2.2.2
     omega
    by_cases h1:c.2.2.2.1 < -1152921504606846976
    ·rw[Õ (decide_eq_true h1),hout (.inl h1)]
    rw[Ò (decide_eq_false h1)]
    by_cases h2:1152921504606846976<c.2.2.2.1
    ·rw[Õ (decide_eq_true h2),hout (.inr h2)]
    rw[Ò (decide_eq_false (by omega)),Û (by omega) (by omega),aSR hS _ hl,À,Int.zero_sub]
    exact key _ _ _
 rw[hbound,À]
 cases hu:c.2.2.1 with
 | true =>
   rw[if_pos rfl,if_pos rfl]
   by_cases h:Ĉ (Ú c.1) 0 (ak7 c.1 c.2.1.1 c.2.1.2) c.2.2.2.2=(c.2.2.2.1,0)
   ·rw[decide_eq_true h,if_pos h]; rfl
   ·rw[decide_eq_false h,if_neg h]; rfl
 | false =>
   rw[if_neg (by simp),if_neg (by simp)]
   by_cases h:Ĉ (Ú c.1) (ak7 c.1 c.2.1.1 c.2.1.2) 0 c.2.2.2.2=(-c.2.2.2.1,0)
   ·rw[decide_eq_true h,if_pos h]; rfl
   ·rw[decide_eq_false h,if_neg h]; rfl
theorem aFT {c:aUt} (hs:Ļ c.1) (hl:c.2.2.2.2.length≤90):č c=some (ad5 c):=by
 unfold č ah8 ad5
 rw[awJ hs,À]
 by_cases hc:à c.1=0
 case neg=>rw[Õ (bne_iff_ne.2 hc),if_pos hc]
 have hg:=(ð c.1).1 hc
 have hS:=hg.sys
 have hlen:=hS.len
 rw[Ò (by rw[hc]; rfl),if_neg (by simp[hc])]
 by_cases h1:c.2.1=(0,0)
 case neg =>
  have e1:(!((û c.2.1.1 0)&&((û c.2.1.2 0)&&true)))=true:=by
   rw[Prod.ext_iff] at h1
   simp[û]
   dsimp only at h1
   omega
  rw[e1,Ġ,if_pos (.inl h1)]
 have e1:(!((û c.2.1.1 0)&&((û c.2.1.2 0)&&true)))=false:=by rw[h1]; rfl
 rw[e1,ã]
 cases h2:c.2.2.1 with
 |true=>rw[Ġ,if_pos (.inr (.inl rfl))]
 | false =>
   rw[ã]
   by_cases h3:c.2.2.2.1=0
   case neg=>rw[Õ (bne_iff_ne.2 h3),if_pos (.inr (.inr h3))]
   rw[Ò (by rw[h3]; rfl),if_neg (by simp[h1,h3]),â]
   have fin:∀(x:Int) (y:Bool),Ű (Ú c.1) c.2.2.2.2=x→y=decide (x=0)→ifb (!y) (some (8:Int)) (some 0)=some (if Ű (Ú c.1) c.2.2.2.2=0 then 0 else 8):=by
    rintro x y rfl rfl
    by_cases hx:Ű (Ú c.1) c.2.2.2.2=0
    ·rw[decide_eq_true hx,if_pos hx]; rfl
    ·rw[decide_eq_false hx,if_neg hx]; rfl
   by_cases h4:80<c.2.2.2.2.length
   ·rw[Õ (decide_eq_true (by omega)),if_neg]
    unfold Ű ε
    rw[if_pos h4]
    simp
   rw[Ò (decide_eq_false (by omega)),aJG hg,À,show(((Ï c.1).length:Int)+1,Ú c.1)=((((Ï c.1).length+1:Nat):Int),Ú c.1) by push_cast; rfl]
   unfold atf asC
   rw[aSS _ (by omega) hl,À,â]
   cases hx:c.2.2.2.2 with
   | nil =>
     rw[hx] at fin
     rw[Õ (by rfl),À]
     exact fin 8 false rfl rfl
   | cons i t =>
     rw[hx] at hl h4 fin
     rw[Ò (beq_eq_false_iff_ne.2 (by simp; omega))]
     cases ha:(i::t).any (ad2 (Ú c.1)) with
     | true =>
       rw[Õ (by rfl),À]
       refine fin 1 false ?_ rfl
       unfold Ű ε
       rw[if_neg h4,ha]
       rfl
     | false =>
       have hix:ε (Ú c.1) (i::t)=0:=by
        unfold ε
        rw[if_neg h4,ha]
        rfl
       have hall:∀j∈i::t,ad2 (Ú c.1) j=false:=fun j hj=>Bool.eq_false_iff.2 (List.any_eq_false.1 ha j hj)
       have hi0:=hall i (by simp)
       simp only[ad2,Bool.or_eq_false_iff,decide_eq_false_iff_not] at hi0
       obtain⟨x,hg2⟩:∃x,(Ú c.1)[i.toNat]?=some x:=⟨_,List.getElem?_eq_getElem (by omega)⟩
       have hC:Ű (Ú c.1) (i::t)=aT1 x.1 (ajO (Ú c.1) x.1 0 (i::t)):=by
        unfold Ű
        rw[hix,if_neg (by simp)]
        dsimp only
        rw[hg2]
        rfl
       rw[Ò (by rfl),aPW,aed (by omega) hg2,aSR hS _ hl,À,ato _ _ _ hall]
       generalize ajO (Ú c.1) x.1 0 (i::t)=w at hC
       obtain⟨e,sum,ok⟩:=w
       unfold aT1 at hC
       dsimp only at hC ⊢
       cases ok with
       | false =>
         rw[ã,À]
         exact fin 8 false (by rw[hC,if_neg (by simp)]) rfl
       | true =>
         rw[Ġ]
         by_cases g1:e=x.1
         ·rw[Õ (beq_iff_eq.2 g1),À]
          by_cases g2:sum<0
          ·exact fin 0 _ (by rw[hC,if_pos ⟨rfl,g1,g2⟩]) (decide_eq_true g2)
          ·exact fin 8 _ (by rw[hC,if_neg (fun h=>g2 h.2.2)]) (decide_eq_false g2)
         ·rw[Ò (beq_eq_false_iff_ne.2 g1),À]
          exact fin 8 false (by rw[hC,if_neg (fun h=>g1 h.2.1)]) rfl
end Go.Proofs.ZzM
end
noncomputable section
namespace Go.Proofs.ZzM
open Go Go.Am
def aBV (b:á) (l:List Int):List (Int×Int):=l.map fun i=>(ř b)[i.toNat]?.getD (0,0)
theorem aUz {b:á} (hg:ğ b) (hn:∀g∈b.2.1,I64 g.2.2.2.2.1.1) {l:List Int} (hl:l.length≤1000) (hi:∀i∈l,0≤i∧i.toNat<(Ú b).length):aiA b l=some (aBV b l):=by
 unfold aiA asI
 rw[aiJ (hg.inn hn),À,ad3 hg]
 refine ù l (fun i=>aBV b (l.take i)) _ rfl (fun i a hlt ha kn=>?_) (fun kn=>?_)
 ·try dsimp only
  unfold agp
  have hx:=hi a (List.mem_of_getElem? ha)
  have hs:(ř b)[a.toNat]?=some ((ř b)[a.toNat]'(by rw[aJK hg]; exact hx.2)):=List.getElem?_eq_getElem _
  generalize (ř b)[a.toNat]'(by rw[aJK hg]; exact hx.2)=x at hs
  have hlen:(aBV b (l.take i)).length≤1000:=by unfold aBV; rw[List.length_map,List.length_take]; omega
  rw[Ô hlt,É ha,aed hx.1 hs,ī (show ì ((aBV b (l.take i)).length+[x].length)=true from Ù (show(aBV b (l.take i)).length+1≤4294967296 by omega)),Ì hlt (by omega),take_succ ha]
  unfold aBV
  rw[List.map_append,List.map_singleton,hs]
  rfl
 ·try dsimp only
  unfold agp
  rw[Ý,List.take_length]
theorem src_ok {b:á}:∀s∈ř b,a1O b s:=by
 intro s hs
 unfold ř at hs
 rcases List.mem_append.1 hs with h|h
 ·have:=aPZ s h; exact .inl this
 ·have:=aQj s h; exact .inr this
theorem aY5 {b:á} (hg:ğ b) {l:List Int} (hi:∀i∈l,0≤i∧i.toNat<(Ú b).length):∀s∈aBV b l,a1O b s:=by
 intro s hs
 obtain⟨i,h1,rfl⟩:=List.mem_map.1 hs
 have hx:=hi i h1
 have hsx:(ř b)[i.toNat]?=some ((ř b)[i.toNat]'(by rw[aJK hg]; exact hx.2)):=List.getElem?_eq_getElem _
 rw[hsx]
 exact src_ok _ (List.getElem_mem _)
section
variable {L:List Lk} {N:Nat}
theorem ayt (R:Nat→List Int) (good:Int→Bool):∀(k:Nat) (u sum:Int) (out:List Int),(∀i∈out,0≤i∧i.toNat<L.length)→(∀i∈akf L R good k u sum out,0≤i∧i.toNat<L.length)∧(akf L R good k u sum out).length≤out.length+k
 |0,u,sum,out,h=>⟨h,by simp[akf]⟩
 | k + 1, u, sum, out, h => by
   unfold akf
   cases hn:aF7 L (R k) good u sum with
   | none =>
     have:=ayt R good k u sum out h
     exact⟨this.1,by have:=this.2; dsimp only; omega⟩
   | some i =>
     have hi:i<L.length:=by
      unfold aF7 at hn
      exact(List.findIdx?_eq_some_iff_getElem.1 hn).1
     have:=ayt R good k (L[i]?.getD (0,0,0)).2.1 (sum+(L[i]?.getD (0,0,0)).2.2) (out++[(i:Int)]) (fun j hj=>by
      rcases List.mem_append.1 hj with h1|h1
      ·exact h j h1
      ·simp at h1; subst h1; simp; exact hi)
     exact⟨this.1,by have:=this.2; simp at this; dsimp only; omega⟩
theorem aQn (N:Nat) (u v:Int):(∀i∈(aFX L N u v).1,0≤i∧i.toNat<L.length)∧(aFX L N u v).1.length≤N:=by
 unfold aFX
 split
 ·simp
 ·cases h:(ahg L N v N).findIdx? (fun x=>gv x u==(adb L N u v).1) with
  |none=>simp
  | some k =>
    have hk:=(List.findIdx?_eq_some_iff_getElem.1 h).1
    rw[ae9] at hk
    have:=ayt (L:=L) (exL L N v) (fun n=>ieq n (adb L N u v).1) k u 0 [] (by simp)
    exact⟨this.1,by have:=this.2; simp at this; dsimp only; omega⟩
end
def aAa (B:á) (n:Int×Int) (upper:Bool):List Int :=
 if upper then(aFX (Ú B) ((Ï B).length+1) 0 (ak7 B n.1 n.2)).1 else(aFX (Ú B) ((Ï B).length+1) (ak7 B n.1 n.2) 0).1
def anF (B:á) (n:Int×Int) (upper:Bool):á:=cutP B (aBV B (aAa B n upper)) [n]
def certR (B:á) (n:Int×Int) (upper:Bool):aUt:=(anF B n upper,n,upper,(if upper then(ivR B n).2 else(ivR B n).1),aAa (anF B n upper) n upper)
def ahK (b:á) (n:Int×Int) (upper:Bool):aUt×Int :=
 if (Ĺ b [n]).2≠0 then(aXT,(Ĺ b [n]).2) else
 if à (anF (Ĺ b [n]).1 n upper)≠0 then(aXT,à (anF (Ĺ b [n]).1 n upper)) else
 if œ (Ú (anF (Ĺ b [n]).1 n upper)) ((Ï (anF (Ĺ b [n]).1 n upper)).length+1) then(certR (Ĺ b [n]).1 n upper,0) else(aXT,9)
theorem aVs {ρ:Type}:@aj3 ρ=@Č ρ:=rfl
theorem aWD {ρ:Type} (K:Option ρ):Ñ (fun(v23:Int) kk25=>aj2 (0:Int) v23 (fun u24=>kk25 u24) (fun _=>K)) (0:Int)=K:=by
 refine ő (fun x=>x=0) (fun _=>0) (fun x hx=>.inl fun kn=>?_) rfl
 rw[hx]
 rfl
theorem aS1 {B:á} (h:ğ B) (hn:∀g∈B.2.1,I64 g.2.2.2.2.1.1) (n:Int×Int) (upper:Bool):afD (B,aIa B) n upper=some (aAa B n upper):=by
 unfold afD alW aAa
 rw[aFL h hn,À,show(B,aIa B).2=aIa B from rfl,aBS]
 cases upper with
 |true=>rw[Ġ,aUs h.sys (adL B) (υ B n),À]; rfl
 |false=>rw[ã,aUs h.sys (υ B n) (adL B),À]; rfl
theorem aVq {B:á} (h:ğ B) (n:Int×Int) (upper:Bool):(∀i∈aAa B n upper,0≤i∧i.toNat<(Ú B).length)∧(aAa B n upper).length≤60:=by
 have hN:=h.sys.n60
 unfold aAa
 split
 ·have:=aQn (L:=Ú B) ((Ï B).length+1) 0 (ak7 B n.1 n.2)
  exact⟨this.1,by have:=this.2; omega⟩
 ·have:=aQn (L:=Ú B) ((Ï B).length+1) (ak7 B n.1 n.2) 0
  exact⟨this.1,by have:=this.2; omega⟩
theorem aES (w:List Int):∀(l:List Cmp) (i:Nat),∀c∈as9 w i l,c∈l
 |[],i,c,h=>by simp[as9] at h
 | a :: l, i, c, h => by
   simp only[as9] at h
   split at h
   ·rcases List.mem_cons.1 h with h|h
    ·rw[h]; simp
    ·exact List.mem_cons_of_mem _ (aES w l (i+1) c h)
   ·exact List.mem_cons_of_mem _ (aES w l (i+1) c h)
theorem a0I {b:á} (h:In b) (ss:List (Int×Int)) {looks:List (Int×Int)} (hl:looks.length≤1000):In (cutP b ss looks):=by
 obtain⟨hs,hn⟩:=h
 have g1:=hs.gauges; have g2:=hs.uses; have g3:=hs.loans; have g4:=hs.compares
 unfold cutP
 refine⟨⟨?_,?_,?_,?_,hl,fun c hc=>hs.piles c (aES _ _ _ c hc)⟩,fun g hg=>hn g (List.mem_filter.1 hg).1⟩
 ·exact Nat.le_trans (List.length_filter_le _ _) g1
 ·exact Nat.le_trans (List.length_filter_le _ _) g2
 ·exact Nat.le_trans (List.length_filter_le _ _) g3
 ·exact Nat.le_trans (aET _ _ _) g4
theorem aVS {b:á} (hI:In b) (n:Int×Int) (upper:Bool):amz b n upper=some (ahK b n upper):=by
 unfold amz asQ ahK
 rw[aVs]
 refine(alu hI (ns:=[n]) (by simp) (fun e=>some (aXT,e)) (fun e he=>by rw[ī (by simp[ine,he])]; rfl) (fun z he=>by rw[ī (by simp[ine,he])]; rfl) (fun _ _ _=>rfl)).trans ?_
 split
 ·rfl
 ·rename_i e
  have hr:=(agx hI (by simpa using e)).1
  dsimp only
  generalize (Ĺ b [n]).1=B at hr ⊢
  have hci:=aVq hr.good n upper
  have hpi:In (anF B n upper):=a0I (hr.good.inn hr.num) _ (by simp)
  rw[ao4,show((((Ï B).length:Int)+1,Ú B):Sys)=aIa B from rfl,aS1 hr.good hr.num,À,aUz hr.good hr.num (by omega) hci.1,À,
   cut_ok hr.good.size (by unfold aBV; rw[List.length_map]; omega) (by simp) (aY5 hr.good hci.1),À,show cutP B (aBV B (aAa B n upper)) [n]=anF B n upper from rfl,η hpi.size hpi.num,À]
  by_cases hc:à (anF B n upper)=0
  ·have hg:=(ð _).1 hc
   rw[Ò (by simp[ine,hc]),if_neg (show ¬(à (anF B n upper)≠0) from fun h=>h hc)]
   refine(aWD _).trans ?_
   rw[aiJ hpi,À,ad3 hg,Ò (by rfl)]
   dsimp only
   rw[show((((Ï (anF B n upper)).length:Int)+1,Ú (anF B n upper)):Sys)=aIa (anF B n upper) from rfl,aBS (anF B n upper),awL hg.sys,À]
   cases ho:œ (Ú (anF B n upper)) ((Ï (anF B n upper)).length+1) with
   |false=>rw[if_neg (by simp)]; rfl
   | true =>
     rw[if_pos rfl,←aBS (anF B n upper),Ò (by rfl),aI9 hr,À,aS1 hg hpi.num,À]
     cases upper with
     |true=>rw[Ġ,awb hr,À]; rfl
     |false=>rfl
  ·rw[Õ (by simp[ine,hc]),if_pos hc,Õ (by simp[ine,hc])]
   rfl
theorem aVn {L:List Lk} {N:Nat} (h:adx L N) (ho:œ L N=true):apb ((N:Int),L)=some ([],5):=by
 have hN:=h.n60
 unfold apb aD8
 rw[afH h,À,Ò (by rfl),arZ h.links h.n1 (by omega),À,if_pos ho]
 rfl
theorem aQ6 {b:á} (hg:ğ b) (hn:∀g∈b.2.1,I64 g.2.2.2.2.1.1) (ho:œ (Ú b) ((Ï b).length+1)=true):awo b=some (aXT,5):=by
 unfold awo aDQ
 rw[aiJ (hg.inn hn),À,ad3 hg,Ò (by rfl),show((((Ï b).length:Int)+1,Ú b),ř b,(0:Int)).1=aIa b from rfl,aBS,aVn hg.sys ho,À]
 rfl
end Go.Proofs.ZzM
end
noncomputable section
namespace Go.Proofs.ZzM
open Go Go.Am
section
variable {b:á} {c d:Cmp} {s:Int×Int}
theorem a09 (h:Pred b c s) : -10000000000000000≤s.1∧s.1≤s.2∧s.2≤10000000000000000:=by
 have q:=h.good2.cmp (apE (c:=Ë c))
 obtain⟨_,_,b1,b2,b3⟩:=anx (b:=b) h.good.film (c:=Ë c) ⟨q.nums,q.r1,q.r2⟩
 have e1:aSb b c=ayH (ķ b (Ë c)).1+(aem b (Ë c)).1-(Ë c).2.2.2.2.2.1:=rfl
 have e2:atb b c=(ķ b (Ë c)).2.1 / (ķ b (Ë c)).2.2+(aem b (Ë c)).2+(Ë c).2.2.2.2.2.1:=rfl
 have o:=h.order
 have n:=h.ends
 have bd:=h.bd
 omega
end
end Go.Proofs.ZzM
end
noncomputable section
namespace Go.Proofs.ZzM
open Go Go.Am
def Ξ (e:End):List Int:=[e.1-e.2.1,e.2.2-e.1,Int.tdiv (e.2.2-e.2.1) 2,Int.tdiv (e.2.2-e.2.1) 2-1,Int.tdiv (e.2.2-e.2.1) 2+1]
def akA (e:End) (n:Int):List Int:=[n-e.2.1,e.2.2-n]
def atE (e:End) (d:Int):Int:=min e.1 (min (e.2.1+d) (e.2.2-d))
def aBX (w:ayP) (d:Int):Int×Int:=(-(atE w.2.2 d),atE w.2.1 d)
def aVa (r:Int×Int) (n:Int):List Int:=[n-2,n-1,n,n+1,n+2].filter fun d=>decide (r.1<d)&&decide (d<r.2)
def aF8 (r:Int×Int) (l:List Int):List Int:=[r.1,r.2]++l.flatMap (aVa r)
def aS0 (w:ayP) (l:List Int):Int:=l.foldl (fun m d=>max m ((aBX w d).2-(aBX w d).1)) (-1)
def aV1 (w:ayP):Int:=aS0 w (aF8 w.1 (Ξ w.2.1++Ξ w.2.2))
def Sm (n:Int):Prop:=-100000000000000000≤n∧n≤100000000000000000
structure aNc (e:End):Prop where
 s:Sm e.1
 u:Sm e.2.1
 d:Sm e.2.2
structure aM7 (w:ayP):Prop where
 lo:Sm w.1.1
 hi:Sm w.1.2
 high:aNc w.2.1
 low:aNc w.2.2
theorem aNs (n:Int) : -1≤n-2*Int.tdiv n 2∧n-2*Int.tdiv n 2≤1:=by
 have h1:=Int.tmod_add_mul_tdiv n 2
 have h2:=Int.tmod_two_eq n
 omega
theorem aBj {e:End} (h:aNc e):adv e=some (Ξ e):=by
 obtain⟨⟨a1,a2⟩,⟨b1,b2⟩,c1,c2⟩:=h
 have h2:=aNs (e.2.2-e.2.1)
 unfold adv alO
 rw[Û (by omega) (by omega),Û (by omega) (by omega),Û (by omega) (by omega),Û (by omega) (by omega),Û (by omega) (by omega),Û (by omega) (by omega)]
 rfl
theorem aBt {e:End} (h:aNc e) {n:Int} (hn : -1000000000000000000≤n∧n≤1000000000000000000):adw e n=some (akA e n):=by
 obtain⟨⟨a1,a2⟩,⟨b1,b2⟩,c1,c2⟩:=h
 unfold adw alP
 rw[Û (by omega) (by omega),Û (by omega) (by omega)]
 rfl
theorem a0R {e:End} (h:aNc e) {d:Int} (hd:Sm d):alg e d=some (atE e d):=by
 obtain⟨⟨a1,a2⟩,⟨b1,b2⟩,c1,c2⟩:=h
 obtain⟨d1,d2⟩:=hd
 unfold alg axD
 rw[Û (by omega) (by omega),Û (by omega) (by omega),ayq,ayq]
 unfold atE
 congr 1
 omega
theorem aYs {e:End} (h:aNc e) {d:Int} (hd:Sm d) : -200000000000000000≤atE e d∧atE e d≤100000000000000000:=by
 obtain⟨⟨a1,a2⟩,⟨b1,b2⟩,c1,c2⟩:=h
 obtain⟨d1,d2⟩:=hd
 unfold atE
 omega
theorem aWd {w:ayP} (h:aM7 w) {d:Int} (hd:Sm d):Ň w d=some (aBX w d):=by
 unfold Ň ajU
 have b1:=aYs h.low hd
 rw[a0R h.low hd,À,Û (by omega) (by omega),a0R h.high hd,À]
 unfold aBX
 rw[Int.zero_sub]
theorem aZH (r:Int×Int) (n:Int):(aVa r n).length≤5:=List.length_filter_le _ _
theorem aE6 (r:Int×Int):∀l:List Int,(l.flatMap (aVa r)).length≤l.length*5
 |[]=>by simp
 | n :: l => by
   have h1:=aZH r n
   have h2:=aE6 r l
   rw[List.flatMap_cons,List.length_append,List.length_cons]
   omega
theorem a1k {ρ:Type} (r:Int×Int) {n:Int} (hn : -4000000000000000000≤n∧n≤4000000000000000000) {out:List Int} (ho:out.length≤1000) (K:List Int→Option ρ) :
 Ñ (fun(v9:(Val (.pair tI (.slice tI)))) kk12=>ξ n r.1 r.2 v9.1 v9.2 (fun u10 u11=>kk12 (u10,u11)) K) (n-2,out)=K (out++aVa r n):=by
 let five:List Int:=[n-2,n-1,n,n+1,n+2]
 have hg:∀(i:Nat),i<5→five[i]?=some (n-2+i):=by
  intro i hi
  have:i=0∨i=1∨i=2∨i=3∨i=4:=by omega
  rcases this with rfl|rfl|rfl|rfl|rfl<;>simp only[five,List.getElem?_cons_zero,List.getElem?_cons_succ]<;>congr 1<;>omega
 refine ő (fun v=>∃i:Nat,i≤5∧v=(n-2+(i:Int),out++(five.take i).filter fun d=>decide (r.1<d)&&decide (d<r.2))) (fun v=>(n+3-v.1).toNat) ?_ ⟨0,by omega,by simp⟩
 rintro v ⟨i,hi,rfl⟩
 rcases Nat.lt_or_ge i 5 with h5|h5
 ·refine .inr ⟨(n-2+((i+1:Nat):Int),out++(five.take (i+1)).filter fun d=>decide (r.1<d)&&decide (d<r.2)),⟨i+1,h5,rfl⟩,by dsimp only; omega,fun kn=>?_⟩
  have hl:((five.take i).filter fun d=>decide (r.1<d)&&decide (d<r.2)).length≤5:=aiu _ five i
  dsimp only
  unfold ξ
  rw[Û (by omega) (by omega),Õ (decide_eq_true (by omega)),take_succ (hg i h5),List.filter_append]
  have e0:n-2+(i:Int)+1=n-2+((i+1:Nat):Int):=by push_cast; omega
  by_cases h1:r.1<n-2+(i:Int)
  ·rw[Õ (show igt (n-2+(i:Int)) r.1=true from decide_eq_true h1)]
   by_cases h2:n-2+(i:Int)<r.2
   ·rw[Õ (show ilt (n-2+(i:Int)) r.2=true from decide_eq_true h2),ī (Ù (by rw[List.length_append]; simp only[List.length_singleton]; omega)),Û (by omega) (by omega),e0]
    simp[h1,h2]
   ·rw[Ò (show ilt (n-2+(i:Int)) r.2=false from decide_eq_false h2),Û (by omega) (by omega),e0]
    simp[h1,h2]
  ·rw[Ò (show igt (n-2+(i:Int)) r.1=false from decide_eq_false h1),Û (by omega) (by omega),e0]
   simp[h1]
 ·refine .inl fun kn=>?_
  obtain rfl:i=5:=by omega
  dsimp only
  unfold ξ
  rw[Û (by omega) (by omega),Ò (decide_eq_false (by omega))]
  rfl
theorem aWQ (w:ayP) {l:List Int} (hl:l.length≤100) (hn:∀n∈l,-2000000000000000000≤n∧n≤2000000000000000000):aeA w l=some (aF8 w.1 l):=by
 unfold aeA ajV
 refine ù l (fun i=>[w.1.1,w.1.2]++(l.take i).flatMap (aVa w.1)) _ rfl (fun i n hi ha kn=>?_) (fun kn=>?_)
 ·try dsimp only
  unfold aea
  have hb:=hn n (List.mem_of_getElem? ha)
  have h5:=aE6 w.1 (l.take i)
  have ht:(l.take i).length≤100:=by rw[List.length_take]; omega
  rw[Ô hi,É ha,Û (by omega) (by omega)]
  refine(a1k w.1 (by omega) (by rw[List.length_append]; simp only[List.length_cons,List.length_nil]; omega) _).trans ?_
  rw[Ì hi (by omega),take_succ ha,List.flatMap_append,List.append_assoc]
  simp
 ·try dsimp only
  unfold aea
  rw[Ý,List.take_length]
  rfl
theorem aZq {r:Int×Int} {l:List Int} {d:Int}:d∈aF8 r l↔d=r.1∨d=r.2∨(r.1<d∧d<r.2∧∃n∈l,n-2≤d∧d≤n+2):=by
 unfold aF8 aVa
 simp only[List.mem_append,List.mem_cons,List.not_mem_nil,or_false,List.mem_flatMap,List.mem_filter,Bool.and_eq_true,decide_eq_true_eq]
 constructor
 ·rintro((h|h)|⟨n,hn,h,h1,h2⟩)
  ·exact .inl h
  ·exact .inr (.inl h)
  ·exact .inr (.inr ⟨h1,h2,n,hn,by omega,by omega⟩)
 ·rintro(h|h|⟨h1,h2,n,hn,h3,h4⟩)
  ·exact .inl (.inl h)
  ·exact .inl (.inr h)
  ·exact .inr ⟨n,hn,by omega,h1,h2⟩
theorem aTB (r:Int×Int) {l:List Int} (hl:l.length≤100):(aF8 r l).length≤600:=by
 have:=aE6 r l
 unfold aF8
 rw[List.length_append]
 simp only[List.length_cons,List.length_nil]
 omega
theorem aWP {w:ayP} (h:aM7 w) {l:List Int}:∀d∈aF8 w.1 l,Sm d:=by
 intro d hd
 obtain⟨a1,a2⟩:=h.lo
 obtain⟨b1,b2⟩:=h.hi
 rcases aZq.1 hd with h|h|⟨h1,h2,_⟩
 ·rw[h]; exact⟨a1,a2⟩
 ·rw[h]; exact⟨b1,b2⟩
 ·exact⟨by omega,by omega⟩
theorem aBk {e:End} (h:aNc e):∀n∈Ξ e,-1000000000000000000≤n∧n≤1000000000000000000:=by
 obtain⟨⟨a1,a2⟩,⟨b1,b2⟩,c1,c2⟩:=h
 have h2:=aNs (e.2.2-e.2.1)
 intro n hn
 unfold Ξ at hn
 simp only[List.mem_cons,List.not_mem_nil,or_false] at hn
 omega
theorem aYZ {w:ayP} (h:aM7 w):afA w=some (aV1 w):=by
 unfold afA aic
 have hl:([Ξ w.2.1,Ξ w.2.2]:List (List Int)).flatten=Ξ w.2.1++Ξ w.2.2:=by simp
 have hll:(Ξ w.2.1++Ξ w.2.2).length=10:=rfl
 rw[aBj h.high,À,aBj h.low,À,ahY (by simp) (by rw[hl,hll]; omega),À,hl,aWQ w (by rw[hll]; omega) (fun n hn=>by
  rcases List.mem_append.1 hn with hn|hn
  ·have:=aBk h.high n hn; omega
  ·have:=aBk h.low n hn; omega),À]
 have hnl:=aTB w.1 (l:=Ξ w.2.1++Ξ w.2.2) (by rw[hll]; omega)
 have hsm:=aWP h (l:=Ξ w.2.1++Ξ w.2.2)
 unfold aV1
 generalize aF8 w.1 (Ξ w.2.1++Ξ w.2.2)=l at hnl hsm ⊢
 refine ő (fun v=>∃i:Nat,i≤l.length∧v=(aS0 w (l.take i),(i:Int))) (fun v=>l.length-v.2.toNat) ?_ ⟨0,by omega,rfl⟩
 rintro v ⟨i,hi,rfl⟩
 rcases Nat.lt_or_ge i l.length with h2|h2
 ·have ha:l[i]?=some l[i]:=List.getElem?_eq_getElem h2
  have hs:=hsm l[i] (List.getElem_mem _)
  generalize l[i]=d at ha hs
  refine .inr ⟨(aS0 w (l.take (i+1)),((i+1:Nat):Int)),⟨i+1,h2,rfl⟩,by dsimp only; omega,fun kn=>?_⟩
  dsimp only
  unfold adQ
  have b1:=aYs h.low hs
  have b2:=aYs h.high hs
  rw[Ô h2,É ha,show Ň ((w.1.1,w.1.2),(w.2.1.1,w.2.1.2.1,w.2.1.2.2),w.2.2.1,w.2.2.2.1,w.2.2.2.2) d=Ň w d from rfl,aWd h hs,À,Û (by unfold aBX; dsimp only; omega) (by unfold aBX; dsimp only; omega),Ì h2 (by omega),aSg,take_succ ha]
  unfold aS0
  rw[List.foldl_append]
  rfl
 ·refine .inl fun kn=>?_
  obtain rfl:i=l.length:=by omega
  dsimp only
  unfold adQ
  rw[Ý,List.take_length]
theorem aSZ {b:á} {n:Int×Int} {c:Cmp} (hp:(Į b c).2=0):aM7 (aNh b n c):=by
 obtain⟨g1,g2⟩:=ahJ hp
 have ho:=ay0 hp
 have hb:=a09 (aNK hp)
 have hx:=arR g2
 have hy:=arQ g2
 have b6:=aWi g1 g2 ho
 have key:∀{s t:Int},0≤s∧s<((Ï (è b (Ë c))).length+1:Nat)→0≤t∧t<((Ï (è b (Ë c))).length+1:Nat)→aNc (endP b (Ë c) s t):=by
  intro s t hs ht
  have b1:=ake g1 g2 ho hs ht
  have b2:=ake g1 g2 ho hs hy
  have b3:=ake g1 g2 ho hx ht
  have b4:=ake g1 g2 ho hs hx
  have b5:=ake g1 g2 ho hy ht
  unfold endP
  exact⟨⟨by dsimp only; omega,by dsimp only; omega⟩,⟨by dsimp only; omega,by dsimp only; omega⟩,by dsimp only; omega,by dsimp only; omega⟩
 exact⟨⟨by show _≤(Į b c).1.1; omega,by show(Į b c).1.1≤_; omega⟩,⟨by show _≤(Į b c).1.2; omega,by show(Į b c).1.2≤_; omega⟩,key (adL _) (υ _ n),key (υ _ n) (adL _)⟩
def aUk (b:á) (n:Int×Int) (c:Cmp):Int×Int :=
 if (Ĺ b [n]).2≠0 then(0,(Ĺ b [n]).2) else if (Į (Ĺ b [n]).1 c).2≠0 then(0,(Į (Ĺ b [n]).1 c).2) else(aV1 (aNh (Ĺ b [n]).1 n c),0)
theorem aY0 {ρ:Type}:@aor ρ=@Č ρ:=rfl
theorem a0n {b:á} (hI:In b) (n:Int×Int) {c:Cmp} (hA:c.2.2.1.length≤1000) (hB:c.2.2.2.1.length≤1000):ao9 b n c=some (aUk b n c):=by
 unfold ao9 aDI aUk
 rw[aY0]
 refine(alu hI (ns:=[n]) (by simp) (fun e=>some ((0:Int),e)) (fun e he=>by rw[ī (by simp[ine,he])]) (fun z he=>by rw[ī (by simp[ine,he])]) (fun _ _ _=>rfl)).trans ?_
 split
 ·rfl
 ·rename_i e
  have hr:=(agx hI (by simpa using e)).1
  dsimp only
  rw[ao4,show((((Ï (Ĺ b [n]).1).length:Int)+1,Ú (Ĺ b [n]).1):Sys)=aIa (Ĺ b [n]).1 from rfl,aPP hr n hA hB,À]
  unfold aMu
  by_cases hp:(Į (Ĺ b [n]).1 c).2=0
  ·rw[if_neg (by simp[hp]),if_neg (by simp[hp]),Ò (by rfl),aYZ (aSZ hp),À]
  ·rw[if_pos hp,if_pos hp,Õ (bne_iff_ne.2 hp)]
def aVV (x:Int):Int:=max (-288230376151711744) (min x 288230376151711744)
def ar1 (w:ayP) (l:Int×Int):List Int:=(Ξ w.2.1++Ξ w.2.2)++(akA w.2.1 l.1++akA w.2.2 (-l.1))++(akA w.2.1 l.2++akA w.2.2 (-l.2))
def aTe (w:ayP) (l:Int×Int):Bool:=(aF8 w.1 (ar1 w l)).all fun d=>aiM (aBX w d) l != 3
def aBL (b:á) (n l:Int×Int) (c:Cmp):Bool×Int :=
 if (Ĺ b [n]).2≠0 then(false,(Ĺ b [n]).2) else if l.2<l.1 then(false,1) else if (Į (Ĺ b [n]).1 c).2≠0 then(false,(Į (Ĺ b [n]).1 c).2) else(aTe (aNh (Ĺ b [n]).1 n c) (aVV l.1,aVV l.2),0)
theorem aUA {ρ:Type}:@ajZ ρ=@Č ρ:=rfl
theorem a0H (x:Int):afB x=some (aVV x):=by
 unfold afB alS aVV
 rw[ayq,aSg]
theorem aBu {e:End} (h:aNc e) {n:Int} (hn : -300000000000000000≤n∧n≤300000000000000000):∀m∈akA e n,-1000000000000000000≤m∧m≤1000000000000000000:=by
 obtain⟨⟨a1,a2⟩,⟨b1,b2⟩,c1,c2⟩:=h
 intro m hm
 unfold akA at hm
 simp only[List.mem_cons,List.not_mem_nil,or_false] at hm
 omega
theorem aVM {b:á} (hI:In b) (n l:Int×Int) {c:Cmp} (hA:c.2.2.1.length≤1000) (hB:c.2.2.2.1.length≤1000):aiB b n l c=some (aBL b n l c):=by
 unfold aiB asO aBL
 rw[aUA]
 refine(alu hI (ns:=[n]) (by simp) (fun e=>some (false,e)) (fun e he=>by rw[Õ (by simp[ine,he])]) (fun z he=>by rw[Õ (by simp[ine,he])]) (fun _ _ _=>rfl)).trans ?_
 split
 ·rfl
 ·rename_i e
  have hr:=(agx hI (by simpa using e)).1
  dsimp only
  by_cases hl:l.2<l.1
  ·rw[Õ (by simp[igt,hl]),if_pos hl]
  ·rw[Ò (by simp[igt]; omega),if_neg hl,ao4,show((((Ï (Ĺ b [n]).1).length:Int)+1,Ú (Ĺ b [n]).1):Sys)=aIa (Ĺ b [n]).1 from rfl,aPP hr n hA hB,À]
   unfold aMu
   by_cases hp:(Į (Ĺ b [n]).1 c).2=0
   ·rw[if_neg (by simp[hp]),if_neg (by simp[hp]),Ò (by rfl)]
    have hw:=aSZ (n:=n) hp
    dsimp only
    generalize aNh (Ĺ b [n]).1 n c=w at hw ⊢
    have f1 : -300000000000000000≤aVV l.1∧aVV l.1≤300000000000000000:=by unfold aVV; omega
    have f2 : -300000000000000000≤aVV l.2∧aVV l.2≤300000000000000000:=by unfold aVV; omega
    have q1:([Ξ w.2.1,Ξ w.2.2]:List (List Int)).flatten=Ξ w.2.1++Ξ w.2.2:=by simp
    have q2:∀x y z:List Int,([x,y,z]:List (List Int)).flatten=x++(y++z):=by intro x y z; simp
    rw[aBj hw.high,À,aBj hw.low,À,ahY (by simp) (by rw[q1]; simp[Ξ]),À,q1,a0H,À,a0H,À]
    generalize aVV l.1=l1 at f1 ⊢
    generalize aVV l.2=l2 at f2 ⊢
    rw[aBt hw.high (by omega),À,Û (by omega) (by omega),Int.zero_sub,aBt hw.low (by omega),À,ahY (by simp) (by rw[q2]; simp[Ξ,akA]),À,q2,
     aBt hw.high (by omega),À,Û (by omega) (by omega),Int.zero_sub,aBt hw.low (by omega),À,ahY (by simp) (by rw[q2]; simp[Ξ,akA]),À,q2]
    have hll:(ar1 w (l1,l2)).length=18:=rfl
    have qs:Ξ w.2.1++Ξ w.2.2++(akA w.2.1 l1++akA w.2.2 (-l1))++(akA w.2.1 l2++akA w.2.2 (-l2))=ar1 w (l1,l2):=rfl
    rw[qs,aWQ w (by rw[hll]; omega) (fun m hm=>by
     unfold ar1 at hm
     simp only[List.mem_append] at hm
     rcases hm with((hm|hm)|(hm|hm))|(hm|hm)
     ·have:=aBk hw.high m hm; omega
     ·have:=aBk hw.low m hm; omega
     ·have:=aBu hw.high f1 m hm; omega
     ·have:=aBu hw.low (n:=-l1) (by omega) m hm; omega
     ·have:=aBu hw.high f2 m hm; omega
     ·have:=aBu hw.low (n:=-l2) (by omega) m hm; omega),À]
    have hnl:=aTB w.1 (l:=ar1 w (l1,l2)) (by rw[hll]; omega)
    have hsm:=aWP hw (l:=ar1 w (l1,l2))
    unfold aTe
    generalize aF8 w.1 (ar1 w (l1,l2))=ds at hnl hsm ⊢
    refine(ģ ds (fun d=>aiM (aBX w d) (l1,l2)==3) (fun z30=>some ((!(ige z30 (0:Int))),(0:Int))) (some (false,0)) (some (true,0)) (fun j=>by rw[show ige (j:Int) 0=true from decide_eq_true (by omega)]; rfl) (fun i d hi hd kn=>?_) (fun kn=>?_)).trans ?_
    ·try dsimp only
     unfold agq
     rw[Ô hi,É hd,show Ň ((w.1.1,w.1.2),(w.2.1.1,w.2.1.2.1,w.2.1.2.2),w.2.2.1,w.2.2.2.1,w.2.2.2.2) d=Ň w d from rfl,aWd hw (hsm d (List.mem_of_getElem? hd)),À,aH7,À,Ì hi (by omega),ď]
    ·try dsimp only
     unfold agq
     rw[Ý]
    ·rw[show(fun d=>aiM (aBX w d) (l1,l2) != 3)=(fun d=>!(aiM (aBX w d) (l1,l2)==3)) from rfl,←List.not_any_eq_all_not]
     cases ds.any fun d=>aiM (aBX w d) (l1,l2)==3<;>rfl
   ·rw[if_pos hp,if_pos hp,Õ (bne_iff_ne.2 hp)]
end Go.Proofs.ZzM
end
noncomputable section
namespace Go.Proofs.ZzM
open Go Go.Am
theorem aVr {b:á} (h:In b) (n:Int×Int) (upper:Bool):In (ahK b n upper).1.1:=by
 have h0:In akm:=⟨⟨by simp[akm],by simp[akm],by simp[akm],by simp[akm],by simp[akm],by simp[akm]⟩,by simp[akm]⟩
 unfold ahK
 by_cases e:(Ĺ b [n]).2=0
 ·rw[if_neg (by simp[e])]
  have hr:=(agx h e).1
  split
  ·exact h0
  ·split
   ·exact a0I (hr.good.inn hr.num) _ (by simp)
   ·exact h0
 ·rw[if_pos e]; exact h0
theorem y1:awK exB (2,10)=((984,1011),0):=by decide +kernel
theorem y2:awK exB (1,30)=((964,1005),0):=by decide +kernel
theorem y3:aNf exB (1,10) (2,10)=((-6,11),0):=by decide +kernel
theorem y4:a1T exB 10 [1,2]=((1979,2018),0):=by decide +kernel
theorem y5:aYQ exB (2,0) (990,1010)=(3,0):=by decide +kernel
theorem y6:(ahK exB (2,10) true).2=0∧(ahK exB (2,10) true).1.2.2.2.1=1011:=by decide +kernel
theorem y7:aUk exB (2,10) exC=(10,0):=by decide +kernel
theorem y8:aBL exB (2,10) (900,1100) exC=(true,0):=by decide +kernel
theorem y9:Ν exB (ahK exB (2,10) true).1=(true,0):=by decide +kernel
theorem y10:à exB=0∧œ (Ú exB) ((Ï exB).length+1)=true:=by decide +kernel
theorem y11:aek (ahK exB (2,10) true).1=0:=by decide +kernel
theorem aUC:Ó=some true:=by
 unfold Ó asl ao5 anO
 have hc:=aVr ape (2,10) true
 have hv:I64 (ahK exB (2,10) true).1.2.2.2.1:=by rw[y6.2]; unfold I64; omega
 rw[À]
 rw[show((((0:Int),(2:Int)),[((1:Int),(0:Int),(1000:Int),((-5:Int),(5:Int)),((1:Int),(10:Int)),(1:Int)),((2:Int),(0:Int),(1000:Int),((-50:Int),(50:Int)),((1:Int),(4:Int)),(0:Int))],[((1:Int),(10:Int))],[((1:Int),((20:Int),(29:Int)),(3:Int))],[((7:Int),(10:Int),[(1:Int)],[(2:Int)],(-20:Int),(1:Int),(100:Int),(200:Int))],([]:List (Int×Int))):á)=exB from rfl]
 rw[aFV ape,À,aFV ape,À,aVT ape,À,a1S ape _ (by decide),À,a0w ape,À,aVS ape,À,y1,y2,y3,y4,y5,y6.1,y6.2]
 rw[show ao9 exB ((2:Int),(10:Int)) ((8:Int),(10:Int),[(1:Int)],[(2:Int)],(0:Int),(0:Int),(0:Int),(0:Int))=some (aUk exB (2,10) exC) from a0n ape _ (c:=exC) (by decide) (by decide),
  show aiB exB ((2:Int),(10:Int)) ((900:Int),(1100:Int)) ((8:Int),(10:Int),[(1:Int)],[(2:Int)],(0:Int),(0:Int),(0:Int),(0:Int))=some (aBL exB (2,10) (900,1100) exC) from aVM ape _ _ (c:=exC) (by decide) (by decide),
  aQG ape hc hv,aQ6 ((ð _).1 y10.1) ape.num y10.2,aAd hc hv,y7,y8,y9,y11]
 rfl
end Go.Proofs.ZzM
end
noncomputable section
namespace Go.Proofs.ZzM
open Go Go.Am
section
variable {B:á} (h:Room B)
include h
end
def aJy (c:Cmp):Bool:=decide (c.2.2.1.length≤10)&&decide (c.2.2.2.1.length≤10)
theorem aYj (c:Cmp):apV c=some (aJy c):=by
 unfold apV aw8 aJy
 rw[â,â,ď]
 by_cases h:c.2.2.1.length≤10
 ·rw[if_pos (by simp[ile]; omega)]
  simp[ile,h]
  omega
 ·rw[if_neg (by simp[ile]; omega)]
  simp[h]
def a1v (b:á):Bool :=
 !((b.2.2.2.2.1.take 50).any fun c=>!aJy c)&&(decide (b.2.1.length≤14)&&(decide (b.2.2.1.length≤45)&&(decide (b.2.2.2.1.length≤14)&&(decide (b.2.2.2.2.1.length≤42)&&decide (b.2.2.2.2.2.length≤12)))))
theorem aXA (b:á):apU b=some (a1v b):=by
 unfold apU aKl
 have last:(ifb (ile (Ü b.2.1) (14:Int)) (ifb (ile (Ü b.2.2.1) (45:Int)) (ifb (ile (Ü b.2.2.2.1) (14:Int)) (ifb (ile (Ü b.2.2.2.2.1) (42:Int)) (some (ile (Ü b.2.2.2.2.2) (12:Int))) (some false)) (some false)) (some false)) (some false)) =
  some (decide (b.2.1.length≤14)&&(decide (b.2.2.1.length≤45)&&(decide (b.2.2.2.1.length≤14)&&(decide (b.2.2.2.2.1.length≤42)&&decide (b.2.2.2.2.2.length≤12))))):=by
  have e:∀(n m:Nat),ile (n:Int) (m:Int)=decide (n≤m):=fun n m=>by simp[ile]
  rw[â,â,â,â,â,show(14:Int)=((14:Nat):Int) from rfl,show(45:Int)=((45:Nat):Int) from rfl,show(42:Int)=((42:Nat):Int) from rfl,show(12:Int)=((12:Nat):Int) from rfl,e,e,e,e,e]
  generalize decide (b.2.1.length≤14)=x1
  generalize decide (b.2.2.1.length≤45)=x2
  generalize decide (b.2.2.2.1.length≤14)=x3
  generalize decide (b.2.2.2.2.1.length≤42)=x4
  cases x1<;>cases x2<;>cases x3<;>cases x4<;>rfl
 rw[last]
 refine Eq.trans (ģ (b.2.2.2.2.1.take 50) (fun c=>!aJy c) (fun _=>some false) (some false) (some (decide (b.2.1.length≤14)&&(decide (b.2.2.1.length≤45)&&(decide (b.2.2.2.1.length≤14)&&(decide (b.2.2.2.2.1.length≤42)&&decide (b.2.2.2.2.2.length≤12)))))) (fun _=>rfl) (fun i c hi hc kn=>?_) (fun kn=>?_)) ?_
 ·try dsimp only
  unfold aly
  rw[List.length_take] at hi
  have hc':b.2.2.2.2.1[i]?=some c:=by rw[List.getElem?_take] at hc; split at hc<;>simp_all
  rw[Ô (show i<b.2.2.2.2.1.length by omega),Õ (decide_eq_true (by omega)),É hc',aYj,À,Û (by omega) (by omega),ď]
 ·try dsimp only
  unfold aly
  rw[List.length_take,ď]
  split
  ·rename_i h
   have h':50<b.2.2.2.2.1.length:=by rw[â] at h; simp[ilt] at h; omega
   rw[Ò (decide_eq_false (by omega))]
  ·rfl
 ·unfold a1v
  cases List.any (List.take 50 b.2.2.2.2.1) (fun c=>!aJy c)<;>rfl
theorem aME {b:á} (h:a1v b=true):Ļ b:=by
 simp only[a1v,Bool.and_eq_true,Bool.not_eq_true',decide_eq_true_eq] at h
 obtain⟨h0,h1,h2,h3,h4,h5⟩:=h
 refine⟨by omega,by omega,by omega,by omega,by omega,fun c hc=>?_⟩
 rw[List.take_of_length_le (by omega)] at h0
 have:=List.any_eq_false.1 h0 c hc
 simp[aJy] at this
 omega
end Go.Proofs.ZzM
end
noncomputable section
namespace Go.Proofs.ZzM
open Go Go.Am
def aQM (s b:á):Bool×Int:=if à s≠0 then(false,à s) else if à b≠0 then(false,à b) else(aF6 s b,0)
theorem a1U {s b:á} (hs:In s) (hb:In b):aBG s b=some (aQM s b):=by
 unfold aBG aLy aQM
 rw[η hs.size hs.num,À]
 by_cases h1:à s=0
 case neg=>rw[Õ (bne_iff_ne.2 h1),if_pos h1]
 rw[Ò (by rw[h1]; rfl),if_neg (by simp[h1]),η hb.size hb.num,À]
 by_cases h2:à b=0
 case neg=>rw[Õ (bne_iff_ne.2 h2),if_pos h2]
 rw[Ò (by rw[h2]; rfl),if_neg (by simp[h2]),part_ok hs.size hb.size,À]
theorem aWJ (n:Int×Int):((û n.1 (0:Int))&&((û n.2 (0:Int))&&true))=decide (n=(0,0)):=by
 rw[Bool.eq_iff_iff]
 simp only[û,Bool.and_true,Bool.and_eq_true,decide_eq_true_eq,Prod.ext_iff]
def aSz (c:aUt):Int:=if c.2.1=(0,0) then ad5 c else aek c
theorem aVL {b:á} (h:à b=0) (c:aUt):Ν b c=if aSz c≠0 then(false,aSz c) else(aF6 c.1 b,0):=by
 unfold Ν aSz
 rw[if_neg (by simp[h])]
 by_cases h1:c.2.1=(0,0)
 ·simp only[h1,if_true]
 ·simp only[h1,if_false]
theorem aWp {s b:á} (hn:∀g∈s.2.1,I64 g.2.2.2.2.1.1) (hn2:∀g∈b.2.1,I64 g.2.2.2.2.1.1) {c:aUt} (hcn:∀g∈c.1.2.1,I64 g.2.2.2.2.1.1) (hv:I64 c.2.2.2.1):aiv s b c=some true:=by
 unfold aiv ah5
 rw[aXA,À,aXA,À,aXA,À,aUC]
 by_cases hf:a1v s=true
 case neg=>rw[Bool.eq_false_iff.2 hf]; rfl
 have hI:In s:=⟨aME hf,hn⟩
 rw[hf,Ò (by rfl)]
 by_cases hf2:a1v b=true
 case neg=>rw[Bool.eq_false_iff.2 hf2]; rfl
 have hIb:In b:=⟨aME hf2,hn2⟩
 rw[hf2,Ò (by rfl)]
 by_cases hf3:a1v c.1=true
 case neg=>rw[Bool.eq_false_iff.2 hf3]; rfl
 have hIc:In c.1:=⟨aME hf3,hcn⟩
 rw[hf3,Ò (by rfl),â]
 by_cases l1:90<c.2.2.2.2.length
 ·rw[Õ (decide_eq_true (by omega)),À]
 rw[Ò (decide_eq_false (by omega)),a1U hI hIb,À,aQG hIb hIc hv,À,awJ hI.size,À,awJ hIb.size,À]
 -- what is said of the certificate
 have fin:à b=0→∀e,e=aSz c→ifb (ine e (0:Int)) (Â (some true) fun r15=>ifb r15 (ifb (ieq (Ν b c).2 e) (some (!(Ν b c).1)) (some false)) (some false)) (Â (some true) fun r16=>ifb r16 (ifb (ieq (Ν b c).2 (0:Int)) (Â (ï c.1 b) fun r17=>some ((Ν b c).1==r17)) (some false)) (some false))=some true:=by
  rintro h2 e rfl
  rw[aVL h2,aQK hIc.size hIb.size,À]
  by_cases h:aSz c=0
  ·rw[Ò (by rw[h]; rfl),if_neg (by simp[h])]
   simp[ieq]
  ·rw[Õ (bne_iff_ne.2 h),if_pos h]
   simp[ieq]
 have both:à b=0→(Â (ĝ c) fun r13=>ifb ((û c.2.1.1 (0:Int))&&((û c.2.1.2 (0:Int))&&true)) (Â (č c) fun r14=>ifb (ine r14 (0:Int)) (Â (some true) fun r15=>ifb r15 (ifb (ieq (Ν b c).2 r14) (some (!(Ν b c).1)) (some false)) (some false)) (Â (some true) fun r16=>ifb r16 (ifb (ieq (Ν b c).2 (0:Int)) (Â (ï c.1 b) fun r17=>some ((Ν b c).1==r17)) (some false)) (some false))) (ifb (ine r13 (0:Int)) (Â (some true) fun r18=>ifb r18 (ifb (ieq (Ν b c).2 r13) (some (!(Ν b c).1)) (some false)) (some false)) (Â (some true) fun r19=>ifb r19 (ifb (ieq (Ν b c).2 (0:Int)) (Â (ï c.1 b) fun r20=>some ((Ν b c).1==r20)) (some false)) (some false))))=some true:=by
  intro h2
  rw[aH5 hIc.size (by omega),À,aWJ]
  by_cases h3:c.2.1=(0,0)
  ·rw[Õ (decide_eq_true h3),aFT hIc.size (by omega),À]
   exact fin h2 _ (by unfold aSz; rw[if_pos h3])
  ·rw[Ò (decide_eq_false h3)]
   exact fin h2 _ (by unfold aSz; rw[if_neg h3])
 have bad:à b≠0→(Â (some true) fun r21=>ifb r21 (ifb (ieq (Ν b c).2 (à b)) (some (!(Ν b c).1)) (some false)) (some false))=some true:=by
  intro h2
  have e:Ν b c=(false,à b):=by unfold Ν; rw[if_pos h2]
  rw[e]
  simp[ieq]
 have e0:ieq (0:Int) (0:Int)=true:=rfl
 by_cases h1:à s=0
 ·by_cases h2:à b=0
  ·have hp:aQM s b=(aF6 s b,0):=by unfold aQM; rw[if_neg (by simp[h1]),if_neg (by simp[h2])]
   rw[hp,Õ (beq_iff_eq.2 h1),Ò (by rw[h2]; rfl),Ò (by rw[h2]; rfl),Õ (beq_iff_eq.2 h2),aQK hI.size hIb.size,À,Ò (by simp),Õ (beq_iff_eq.2 h2)]
   exact both h2
  ·have hp:aQM s b=(false,à b):=by unfold aQM; rw[if_neg (by simp[h1]),if_pos h2]
   have z:ieq (à b) (0:Int)=false:=beq_eq_false_iff_ne.2 h2
   rw[hp,Õ (beq_iff_eq.2 h1),Ò (by simp[ine]),Õ (bne_iff_ne.2 h2),Ò (by rfl),Ò z,Ò z,Õ (bne_iff_ne.2 h2)]
   exact bad h2
 ·have hp:aQM s b=(false,à s):=by unfold aQM; rw[if_pos h1]
  have z:ieq (à s) (0:Int)=false:=beq_eq_false_iff_ne.2 h1
  rw[hp,Ò z,Ò (by simp[ine]),Õ (bne_iff_ne.2 h1),Ò (by rfl),Ò z]
  by_cases h2:à b=0
  ·rw[Õ (beq_iff_eq.2 h2)]
   exact both h2
  ·have z2:ieq (à b) (0:Int)=false:=beq_eq_false_iff_ne.2 h2
   rw[Ò z2,Õ (bne_iff_ne.2 h2)]
   exact bad h2
end Go.Proofs.ZzM
end