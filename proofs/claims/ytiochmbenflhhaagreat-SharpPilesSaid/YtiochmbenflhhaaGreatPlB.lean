/- lemmas -/
import Derived.Test.YtiochmbenflhhaaGreatPlA
import Derived.Test.YtiochmbenflhhaaGreatMdTA
set_option linter.all false
set_option linter.unusedSectionVars false
set_option linter.unusedVariables false
set_option linter.unusedSimpArgs false
noncomputable section
namespace Go.Proofs.ZzM
open Go Go.Am
structure afZ (B:ß):Prop where
 good:Ğ B
 op:ĸ (æ B) ((Í B).length+1)=true
 num:∀g∈B.2.1,I64 g.2.2.2.2.1.1
theorem jn {b:ß} (hI:In b) {ns:List (Int×Int)} (e:(Ă b ns).2=0):afZ (Ă b ns).1∧(Ă b ns).1=(ŵ b ns).1∧(ŵ b ns).2=0∧Ğ b:=by
 unfold Ă at e ⊢
 by_cases hc:ä b=0
 ·rw[if_neg (by simp[hc])] at e ⊢
  by_cases hr:(ŵ b ns).2=0
  ·rw[if_neg (by simp[hr])] at e ⊢
   cases ho:ĸ (æ (ŵ b ns).1) ((Í (ŵ b ns).1).length+1) with
   |true =>
    rw[if_pos rfl];exact⟨⟨Gb ((ð b).1 hc) hr,ho,by rw[Ef hr]; exact hI.num⟩,rfl,hr,(ð b).1 hc⟩
   |false=>rw[ho] at e; simp at e
  ·rw[if_pos hr] at e; exact absurd e hr
 ·rw[if_pos hc] at e; exact absurd e hc
theorem ş (B:ß) (n:Int×Int):0≤yr B n.1 n.2∧yr B n.1 n.2<((Í B).length+1:Nat):=by
 unfold yr
 cases h:jz (Í B) n.1 n.2 with
 |none=>dsimp only; omega
 |some j=>have:=(m7 h).1; dsimp only; omega
theorem M8 {B:ß} (h:Ğ B) (hn:∀g∈B.2.1,I64 g.2.2.2.2.1.1) (s:Sys) (n:Int×Int):ų (B,s) n=some (yr B n.1 n.2):=by
 unfold ų Fr;rw[show š (B,s).1 n=š B n from rfl,TE (h.inn hn),À,F1 h]
 split
 ·rename_i e; rw[e]
 ·rfl
theorem afG {B:ß} {L:List Lk} {N:Nat} (h:Ŋ L N) {to from':Int} (h1:0≤to∧to<N) (h2:0≤from'∧from'<N):Ë (B,(N:Int),L) to from'=some (iP L N from' to).1:=by
 unfold Ë tE;rw[show(B,(N:Int),L).2=((N:Int),L) from rfl,O9 h h2 h1,À]
def Ng (B:ß):Sys:=(((Í B).length:Int)+1,æ B)
def Ch (B:ß) (s t:Int):Int:=dst (æ B) ((Í B).length+1) s t
def ivR (B:ß) (n:Int×Int):Int×Int:=(-(Ch B (yr B n.1 n.2) 0),Ch B 0 (yr B n.1 n.2))
theorem JQ (B:ß):Ng B=((((Í B).length+1:Nat):Int),æ B):=by unfold Ng; push_cast; rfl
theorem ħ (B:ß):0≤(0:Int)∧(0:Int)<((Í B).length+1:Nat):=by omega
section
variable {B:ß} (h:afZ B)
include h
theorem oW {s t:Int} (hs:0≤s∧s<((Í B).length+1:Nat)) (ht:0≤t∧t<((Í B).length+1:Nat)) : -9007199254740992≤Ch B s t∧Ch B s t≤9007199254740992 :=
 ajk h.good.sys h.good.tied h.op hs ht
theorem vV {to from':Int} (h1:0≤to∧to<((Í B).length+1:Nat)) (h2:0≤from'∧from'<((Í B).length+1:Nat)):Ë (B,Ng B) to from'=some (Ch B from' to):=by
 rw[JQ,afG h.good.sys h1 h2,Cs h.good.sys h.good.tied h2 h1,if_pos h.op];rfl
theorem Xa (n:Int×Int):ir (B,Ng B) n=some (-(Ch B (yr B n.1 n.2) 0)):=by
 unfold ir tD;have hb:=oW h (ş B n) (ħ B);rw[M8 h.good h.num,À,vV h (ħ B) (ş B n),À,Ò (by omega) (by omega)];congr 1;omega
theorem I1 (n:Int×Int):iO (B,Ng B) n=some (Ch B 0 (yr B n.1 n.2)):=by
 unfold iO nq;rw[M8 h.good h.num,À,vV h (ş B n) (ħ B),À]
theorem xl (n:Int×Int):Ż (B,Ng B) n=some (ivR B n):=by
 unfold Ż np;rw[Xa h,À,I1 h,À];rfl
end
def JL (b:ß) (n:Int×Int):(Int×Int)×Int:=if (Ă b [n]).2≠0 then((0,0),(Ă b [n]).2) else(ivR (Ă b [n]).1 n,0)
theorem TD {b:ß} (hI:In b) (n:Int×Int):oC b n=some (JL b n):=by
 unfold oC Aq JL;refine(rW hI (ns:=[n]) (by simp) (fun e=>some (((0,0):Int×Int),e)) (fun e he=>by rw[Ĥ (by simp[ine,he])]) (fun z he=>by rw[Ĥ (by simp[ine,he])]) (fun _ _ _=>rfl)).trans ?_
 split
 ·rfl
 ·rename_i e;have hr:=(jn hI (by simpa using e)).1;dsimp only;rw[xr,show((((Í (Ă b [n]).1).length:Int)+1,æ (Ă b [n]).1):Sys)=Ng (Ă b [n]).1 from rfl,xl hr,À]
theorem alb {ρ:Type}:@tO ρ=@ċ ρ:=rfl
theorem apP {ρ:Type}:@Ap ρ=@ċ ρ:=rfl
def btR (B:ß) (m n:Int×Int):Int×Int:=(-(Ch B (yr B m.1 m.2) (yr B n.1 n.2)),Ch B (yr B n.1 n.2) (yr B m.1 m.2))
def abK (b:ß) (m n:Int×Int):(Int×Int)×Int:=if (Ă b [m,n]).2≠0 then((0,0),(Ă b [m,n]).2) else(btR (Ă b [m,n]).1 m n,0)
theorem alo {b:ß} (hI:In b) (m n:Int×Int):xA b m n=some (abK b m n):=by
 unfold xA Fz abK;rw[alb];refine(rW hI (ns:=[m,n]) (by simp) (fun e=>some (((0,0):Int×Int),e)) (fun e he=>by rw[Ĥ (by simp[ine,he])]) (fun z he=>by rw[Ĥ (by simp[ine,he])]) (fun _ _ _=>rfl)).trans ?_
 split
 ·rfl
 ·rename_i e;have hr:=(jn hI (by simpa using e)).1;dsimp only;generalize (Ă b [m,n]).1=B at hr ⊢;have hb:=oW hr (ş B m) (ş B n)
  rw[xr,show((((Í B).length:Int)+1,æ B):Sys)=Ng B from rfl,M8 hr.good hr.num,À,M8 hr.good hr.num,À,vV hr (ş B n) (ş B m),À,
   Ò (by omega) (by omega),vV hr (ş B m) (ş B n),À]
  unfold btR;rw[Int.zero_sub]
def rP (s l:Int×Int):Int:=if l.1≤s.1∧s.2≤l.2 then 1 else if s.2<l.1∨l.2<s.1 then 2 else 3
theorem VX (s l:Int×Int):rz s l=some (rP s l):=by
 unfold rz ET rP;simp only[ĥ,ile,ilt,decide_eq_true_eq]
 by_cases h1:l.1≤s.1<;>by_cases h2:s.2≤l.2<;>by_cases h3:s.2<l.1<;>by_cases h4:l.2<s.1<;>simp[h1,h2,h3,h4]
def aoJ (b:ß) (n l:Int×Int):Int×Int:=if (Ă b [n]).2≠0 then(0,(Ă b [n]).2) else if l.2<l.1 then(0,1) else(rP (ivR (Ă b [n]).1 n) l,0)
theorem aqN {b:ß} (hI:In b) (n l:Int×Int):Jh b n l=some (aoJ b n l):=by
 unfold Jh Q7 aoJ;rw[apP];refine(rW hI (ns:=[n]) (by simp) (fun e=>some ((0:Int),e)) (fun e he=>by rw[Õ (by simp[ine,he])]) (fun z he=>by rw[Õ (by simp[ine,he])]) (fun _ _ _=>rfl)).trans ?_
 split
 ·rfl
 ·rename_i e;have hr:=(jn hI (by simpa using e)).1;dsimp only
  by_cases hl:l.2<l.1
  ·rw[Õ (by simp[igt,hl]),if_pos hl]
  ·rw[Ð (by simp[igt]; omega),if_neg hl,xr,show((((Í (Ă b [n]).1).length:Int)+1,æ (Ă b [n]).1):Sys)=Ng (Ă b [n]).1 from rfl,xl hr,À,VX,À]
def TG (x y:List Int):List Int×List Int×Int:=if !Ů x then([],[],1) else if !Ů y then([],[],1) else(é x y,é y x,0)
def afT {x y:List Int} (hx:x.length≤100000) (hy:y.length≤100000):vS x y=some (TG x y):=by
 unfold vS Lu TG;rw[IW (by omega),À]
 cases Ů x with
 |false=>rfl
 |true =>
  rw[IW (by omega),À]
  cases Ů y with
  |false=>rfl
  |true =>
   rw[tV (by omega) (by omega),À,tV (by omega) (by omega),À];rfl
def afb (ls:List (List Int)) (i:Nat):(ls.take i).flatten.length≤ls.flatten.length:=by
 conv=>rhs; rw[←hZ i ls,fU,di]
 omega
def qn {ls:List (List Int)} (hl:ls.length≤1000000) (hf:ls.flatten.length≤1000000):ï ls=some ls.flatten:=by
 have hk:∀n:Nat,n≤4000000→∀(f:Int→Option (List Int)),ck (n:Int) f=f n:=fun n h f=>Ò (by omega) (by omega) f
 have second:É (fun(v9:(Val (.pair tI (.slice tI)))) kk12=>ñ ls (Ó ls) v9.1 v9.2 (fun u10 u11=>kk12 (u10,u11)) (fun z8=>some z8)) ((0:Int),([]:List Int))=some ls.flatten:=by
  refine ë ls (fun i=>(ls.take i).flatten) (some ls.flatten) (f:=fun(v9:(Val (.pair tI (.slice tI)))) kk12=>ñ ls (Ó ls) v9.1 v9.2 (fun u10 u11=>kk12 (u10,u11)) (fun z8=>some z8)) rfl (fun i x hi hx kn=>?_) (fun kn=>?_)
  ·try dsimp only
   unfold ñ;have h1:=afb ls (i+1);rw[take_succ hx,List.flatten_append,List.length_append] at h1;simp only[List.flatten_cons,List.flatten_nil,List.append_nil] at h1;rw[Ñ hi,Ç hx,Ê hi (by omega),take_succ hx,List.flatten_append];have:â ((List.take i ls).flatten.length+x.length)=true:=Ô (by omega);rw[Ĥ this];simp
  ·try dsimp only
   unfold ñ;rw[Ü];simp
 unfold ï jE;refine Ĭ (fun x:Int×Int=>∃i:Nat,i≤ls.length∧x=(((ls.take i).flatten.length:Int),(i:Int))) (fun x=>ls.length-x.2.toNat) ?_ ⟨0,by omega,rfl⟩;rintro x ⟨i,hi,rfl⟩;rcases Nat.lt_or_ge i ls.length with h2|h2
 ·refine .inr ⟨(((ls.take (i+1)).flatten.length:Int),(i:Int)+1),⟨i+1,h2,by simp⟩,by simp; omega,fun kn=>?_⟩;obtain⟨x,hx⟩:∃x,ls[i]?=some x:=⟨_,df h2⟩;have h1:=afb ls (i+1);rw[take_succ hx,fU,di] at h1;simp only[gC,gH,dU] at h1
  try dsimp only
  unfold ļ;rw[Ñ h2,Ç hx,Û]
  have e1:(((List.take i ls).flatten.length:Int)+(x.length:Int))=((List.take i ls).flatten.length+x.length:Nat):=by omega
  rw[e1,hk _ (by omega)]
  have:ilt ((((List.take i ls).flatten.length+x.length:Nat)):Int) 0=false:=by simp[ilt]; omega
  rw[Ð this,Ê h2 (by omega),take_succ hx];simp
 ·refine .inl fun kn=>?_
  obtain rfl:i=ls.length:=by omega
  try dsimp only
  unfold ļ;rw[Ü,List.take_length];have e2:ilt ((ls.flatten.length:Nat):Int) 0=false:=decide_eq_false (by omega);dsimp only;rw[Ð e2,Int.sub_zero,hk _ (by omega)];rcases Nat.eq_zero_or_pos ls.flatten.length with h0|h0
  ·have:igt (ls.flatten.length:Int) 0=false:=decide_eq_false (by omega);rw[Ð this];exact second
  ·have:igt (ls.flatten.length:Int) 0=true:=decide_eq_true (by omega);rw[Õ this]
   have:((ilt (0:Int) (ls.flatten.length:Int))&&(â (Int.toNat (ls.flatten.length:Int))))=true:=by
    rw[dE,Ô (by omega),gX];exact decide_eq_true (by omega)
   rw[Ĥ this];have:ile 0 (ô (List.replicate (Int.toNat (ls.flatten.length:Int)) (0:Int)))=true:=decide_eq_true (Int.natCast_nonneg _);rw[Ĥ this];exact second
def onP (day:Int) (ids:List Int):List (Int×Int):=ids.map fun id=>(id,day)
def F6 {day:Int} {ls:List (List Int)} (hl:ls.length≤1000000) (hf:ls.flatten.length≤1000000):Ŵ day ls=some (onP day ls.flatten):=by
 unfold Ŵ QW;rw[qn hl hf,À];refine ë ls.flatten (fun i=>onP day (ls.flatten.take i)) _ rfl (fun i x hi hx kn=>?_) (fun kn=>?_)
 ·try dsimp only
  unfold sJ;rw[Ñ hi,Ç hx,Ê hi (by omega),take_succ hx];have:â (List.length (onP day (ls.flatten.take i))+List.length ([(x,day)]))=true:=Ô (by simp[onP]; omega);rw[Ĥ this];simp[onP]
 ·try dsimp only
  unfold sJ;rw[Ü,List.take_length]
def XP {l:List Int} (hl:l.length≤100000) (m:Int):tf l m=some (Ů l&&decide ((l.length:Int)≤m)):=by
 unfold tf Zw;rw[afT hl (by simp),À]
 have e0:Ů []=true:=by decide
 unfold TG;rw[e0,Û]
 cases Ů l<;>rfl
def alT (n:Int):vM n=some (uh n):=by
 unfold vM Q0 uh inP;rw[ĥ]
 by_cases h:0≤n
 ·rw[if_pos (by simpa[ige] using h)]; simp[h]
 ·rw[if_neg (by simpa[ige] using h)]; simp[h]
def xm {ρ α:Type} (l:List α) (i:Int) (f:α→Option ρ):Þ ((ile (0:Int) i)&&(ilt i (ô l))) (Ď l (Int.toNat i) f)=ê l i f:=by
 unfold ê
 by_cases h0:0≤i
 ·by_cases h1:i<l.length
  ·have e:((ile (0:Int) i)&&(ilt i (ô l)))=true:=by simp[ile,ilt,h0,h1]
   rw[Ĥ e];simp only[h0,decide_true];unfold Ď;rfl
  ·have e:((ile (0:Int) i)&&(ilt i (ô l)))=false:=by simp[ile,ilt,h1]
   rw[e];simp only[h0,decide_true];rw[f0 (by omega)];rfl
 ·have e:((ile (0:Int) i)&&(ilt i (ô l)))=false:=by simp[ile,ilt,h0]
  rw[e];simp only[h0,decide_false];rfl
def al7 {ρ:Type} (ns:List (Int×Int)) (n:Int):@rf ρ ns n=@ċ ρ n ns:=by
 funext v0 v1 v2 v3 v4 v5 v6 v7 kn k0 k1;unfold rf ċ;rw[xm]
def afX (B:ß) (ns:List (Int×Int)) (s:Int×Int):Int×Int:=ns.foldl (fun s n=>(s.1+(ivR B n).1,s.2+(ivR B n).2)) s
def apo (B:ß) (f:Int×Int) (ns:List (Int×Int)):Int×Int:=afX B ns (((ns.length:Int)-1)*f.1,((ns.length:Int)-1)*f.2)
def VT (b:ß) (day:Int) (ids:List Int):(Int×Int)×Int :=
 if ä b≠0 then((0,0),ä b) else if ids.length=0∨Ů ids=false∨uh day=false then((0,0),1) else
 if (Ă b (onP day ids)).2≠0 then((0,0),(Ă b (onP day ids)).2) else(apo (Ă b (onP day ids)).1 b.1 (onP day ids),0)
def Pc (B:ß) (x y:List (Int×Int)) (s:Int×Int):afX B (x++y) s=afX B y (afX B x s):=by unfold afX; rw[List.foldl_append]
def af5 {B:ß} (h:afZ B):∀(ns:List (Int×Int)) (s:Int×Int) (m:Int),-m≤s.1∧s.1≤m→-m≤s.2∧s.2≤m →
 (-(m+ns.length*9007199254740992)≤(afX B ns s).1∧(afX B ns s).1≤m+ns.length*9007199254740992)∧(-(m+ns.length*9007199254740992)≤(afX B ns s).2∧(afX B ns s).2≤m+ns.length*9007199254740992)
 |[],s,m,h1,h2=>by unfold afX; simp; omega
 |n::t,s,m,h1,h2=>by
  have b1:=oW h (ş B n) (ħ B);have b2:=oW h (ħ B) (ş B n);have:=af5 h t (s.1+(ivR B n).1,s.2+(ivR B n).2) (m+9007199254740992) (by unfold ivR; dsimp only; omega) (by unfold ivR; dsimp only; omega);show(-(m+((n::t).length:Nat)*9007199254740992)≤(afX B t _).1∧_)∧_;unfold afX at this ⊢;simp only[List.foldl_cons,List.length_cons];push_cast;omega
def aoD {b:ß} (hI:In b) (day:Int) {ids:List Int} (hl:ids.length≤1000):Jg b day ids=some (VT b day ids):=by
 unfold Jg ZN VT;rw[iF hI.size hI.num,À,XP (by omega),À,alT,À,Û]
 by_cases hc:ä b=0
 ·rw[Ð (by simp[ine,hc]),if_neg (show ¬(ä b≠0) from fun h=>h hc)]
  by_cases h0:ids.length=0
  ·rw[Õ (by simp[ieq,h0]),if_pos (.inl h0)]
  ·rw[Ð (beq_eq_false_iff_ne.2 (by omega))]
   by_cases h1:Ů ids=true
   ·have hp:=(yV ids).1 h1
    have e1:(Ů ids&&decide ((ids.length:Int)≤6))=true:=by rw[h1]; simp; omega
    rw[e1,Ð (by rfl)]
    by_cases h2:uh day=true
    ·have hg:=(ð b).1 hc;rw[Ð (by rw[h2]; rfl),if_neg (by simp[h0,h1,h2]),F6 (by simp) (by simp; omega),À]
     have hlen:(onP day ids).length=ids.length:=by simp[onP]
     rw[show([ids]:List (List Int)).flatten=ids by simp,al7,←iF hI.size hI.num];refine(rW hI (ns:=onP day ids) (by omega) (fun e=>some (((0,0):Int×Int),e)) (fun e he=>by rw[Õ (by simp[ine,he])]) (fun z he=>by rw[Õ (by simp[ine,he])]) (fun _ _ _=>rfl)).trans ?_
     split
     ·rfl
     ·rename_i e;have hr:=(jn hI (by simpa using e)).1;have hf:=hg.film;dsimp only;generalize (Ă b (onP day ids)).1=B at hr ⊢
      have hm:∀x:Int,0≤x→x≤1000000→0≤((ids.length:Int)-1)*x∧((ids.length:Int)-1)*x≤10000000:=by
       intro x h0 h1;have:((ids.length:Int)-1)*x≤5*1000000:=fj (by omega) h1 h0 (by omega);exact⟨fG (by omega) h0,by omega⟩
      have m1:=hm b.1.1 (by omega) (by omega);have m2:=hm b.1.2 (by omega) (by omega);rw[Ò (by omega) (by omega),Ò (by omega) (by omega),Ò (by omega) (by omega),xr,show((((Í B).length:Int)+1,æ B):Sys)=Ng B from rfl];unfold apo;rw[hlen];refine ë (onP day ids) (fun i=>afX B ((onP day ids).take i) (((ids.length:Int)-1)*b.1.1,((ids.length:Int)-1)*b.1.2)) _ rfl (fun i n hi hn kn=>?_) (fun kn=>?_)
      ·try dsimp only
       unfold wL;have b1:=oW hr (ş B n) (ħ B);have b2:=oW hr (ħ B) (ş B n);have bs:=af5 hr ((onP day ids).take i) (((ids.length:Int)-1)*b.1.1,((ids.length:Int)-1)*b.1.2) 10000000 (by dsimp only; omega) (by dsimp only; omega)
       have bl:(((onP day ids).take i).length:Int)≤6:=by rw[dv]; omega
       rw[Ñ hi,Ç hn,xl hr,À,take_succ hn,Pc];generalize afX B ((onP day ids).take i) (((ids.length:Int)-1)*b.1.1,((ids.length:Int)-1)*b.1.2)=s at bs ⊢;unfold ivR;dsimp only;rw[Ò (by omega) (by omega),Ò (by omega) (by omega),Ê hi (by omega)];rfl
      ·try dsimp only
       unfold wL;rw[Ü,List.take_length]
    ·have h2':uh day=false:=by simpa using h2
     rw[h2',Õ (by rfl),if_pos (.inr (.inr rfl))]
   ·have h1':Ů ids=false:=by simpa using h1
    rw[h1',Õ (by rfl),if_pos (.inr (.inl rfl))]
 ·rw[Õ (by simp[ine,hc]),if_pos hc]
def ro {α:Type} (p:α→Bool) (l:List α) (i:Nat):((l.take i).filter p).length≤l.length:=by
 have h1:=dP p (l.take i);rw[dv] at h1;omega
def alO (f:Int→Int→Int) (z:Int) (l:List Int) (d:Int):Int:=match l with|[]=>z|x::_=>f x d
def Jp (f:Int→Int→Int) (z:Int) (c:Cmp):Int:=alO f z (é c.2.2.1 c.2.2.2.1) c.2.1-alO f z (é c.2.2.2.1 c.2.2.1) c.2.1
structure asx (b:ß) (f:Int→Int→Int) (z:Int) (g:ì):Prop where
 hi:f g.1 g.2.1≤z+(g.2.2.1+g.2.2.2.1.2)
 lo:z+(g.2.2.1+g.2.2.2.1.1)≤f g.1 g.2.1
 down:∀d e,g.2.1≤d→d≤e→f g.1 e≤f g.1 d
 loss:∀d e,g.2.1≤d→d≤e→f g.1 d≤f g.1 e+jq b g d e
structure aoS (b:ß) (f:Int→Int→Int) (z:Int):Prop where
 gauge:∀g∈b.2.1,asx b f z g
 cmp:∀c∈b.2.2.2.2.1,(ζ b c).1≤Jp f z c∧Jp f z c≤(ζ b c).2
def aff {b:ß} (h:Ğ b) {p:Int→Int} (hg:∀g∈b.2.1,rM b p g):∃f:Int→Int→Int,(∀g∈b.2.1,asx b f (p 0) g)∧∀g∈b.2.1,∀d∈ã b g,f g.1 d=p (Ο b g.1 d):=by
 let f:Int→Int→Int:=fun id d=>match ŷ b id with|some g=>fill b p g d|none=>0
 have hfv:∀g∈b.2.1,∀d,f g.1 d=fill b p g d:=fun g hgm d=>by
  show(match ŷ b g.1 with|some g=>fill b p g d|none=>0)=_;rw[xo h.ids hgm]
 refine⟨f,fun g hgm=>?_,fun g hgm d hd=>by rw[hfv g hgm]; exact OZ h hgm (hg g hgm) hd⟩;have gf:=hg g hgm
 have e0:f g.1 g.2.1=p (Ο b g.1 g.2.1):=by rw[hfv g hgm]; exact OZ h hgm gf (kS g)
 refine⟨by rw[e0]; exact gf.hi,by rw[e0]; exact gf.lo,fun d e h0 hde=>?_,fun d e h0 hde=>?_⟩
 ·rw[hfv g hgm,hfv g hgm];exact(I5 h hgm gf h0 hde).1
 ·rw[hfv g hgm,hfv g hgm];exact(I5 h hgm gf h0 hde).2
def ab4 {b:ß} {f:Int→Int→Int} {p:Int→Int} (hm:∀g∈b.2.1,∀d∈ã b g,f g.1 d=p (Ο b g.1 d)) {l:List Int} {day:Int} (hl:∀x∈l,∃g∈b.2.1,g.1=x∧day∈ã b g):p (Oy b l day)=alO f (p 0) l day:=by
 cases l with
 |nil=>rfl
 |cons x t =>
  obtain⟨g,q1,rfl,q3⟩:=hl x (by simp);exact(hm g q1 day q3).symm
def SZ {b:ß} {f:Int→Int→Int} {p:Int→Int} (hm:∀g∈b.2.1,∀d∈ã b g,f g.1 d=p (Ο b g.1 d)) {c:Cmp}
 (hl:∀x,x∈é c.2.2.1 c.2.2.2.1∨x∈é c.2.2.2.1 c.2.2.1→∃g∈b.2.1,g.1=x∧c.2.1∈ã b g):p (cx b c)-p (cy b c)=Jp f (p 0) c:=by
 unfold Jp;rw[LQ,LP,ab4 hm (fun x hx=>hl x (.inl hx)),ab4 hm (fun x hx=>hl x (.inr hx))]
def Wb {b:ß} (h:Ğ b) (f:Int→Int→Int) (z:Int) {l:List Int} {day:Int} (hl:∀x∈l,∃g∈b.2.1,g.1=x∧day∈ã b g):Wc b f z (Oy b l day)=alO f z l day:=by
 rw[L3 h f z hl];unfold alO
 cases l<;>rfl
def Pp {b:ß} (h:Ğ b) {f:Int→Int→Int} {z:Int} {c:Cmp} (hl:∀x,x∈é c.2.2.1 c.2.2.2.1∨x∈é c.2.2.2.1 c.2.2.1→∃g∈b.2.1,g.1=x∧c.2.1∈ã b g):Wc b f z (cx b c)-Wc b f z (cy b c)=Jp f z c:=by
 unfold Jp;rw[LQ,LP,Wb h f z (fun x hx=>hl x (.inl hx)),Wb h f z (fun x hx=>hl x (.inr hx))]
def V9 {b:ß} (h:Ğ b) {f:Int→Int→Int} {z:Int} {g:ì} (hg:g∈b.2.1) (hh:asx b f z g):rM b (Wc b f z) g:=by
 have q:∀d∈ã b g,Wc b f z (Ο b g.1 d)=f g.1 d:=fun d hd=>Ge h f z hg hd;have e0:=q g.2.1 (kS g);refine⟨?_,?_,fun d e hd he hde=>?_,fun d e hd he hde=>?_⟩
 ·rw[e0,qv]; exact hh.hi
 ·rw[e0,qv]; exact hh.lo
 ·rw[q d hd,q e he]; exact hh.down d e (h.day hg hd).1 hde
 ·rw[q d hd,q e he]; exact hh.loss d e (h.day hg hd).1 hde
section
variable {b:ß} {c:Cmp}
def apm (h:Ğ b) {p:Int→Int} (hp:Pot (æ b) p):∃f,aoS b f (p 0)∧∀g∈b.2.1,∀d∈ã b g,f g.1 d=p (Ο b g.1 d):=by
 obtain⟨hg,hc⟩:=(X1 h).1 hp;obtain⟨f,hf,hm⟩:=aff h hg;refine⟨f,⟨hf,fun c hcm=>?_⟩,hm⟩;have:=SZ hm (c:=c) (fun x hx=>pJ h hcm hx);have:=hc c hcm;omega
def apS (h:Ğ b) {f:Int→Int→Int} {z:Int} (hh:aoS b f z):Pot (æ b) (Wc b f z):=by
 refine(X1 h).2 ⟨fun g hg=>V9 h hg (hh.gauge g hg),fun c hc=>?_⟩;have:=Pp (f:=f) (z:=z) h (c:=c) (fun x hx=>pJ h hc hx);have:=hh.cmp c hc;omega
def ajl (h:Ğ b) {d:Cmp} (hd:d∈b.2.2.2.2.1):∀x,x∈é d.2.2.1 d.2.2.2.1∨x∈é d.2.2.2.1 d.2.2.1→∃g∈(î b c).2.1,g.1=x∧d.2.1∈ã (î b c) g:=by
 intro x hx;obtain⟨g,q1,q2,q3⟩:=pJ h hd hx;exact⟨g,q1,q2,vT q3⟩
def am8 (h:Ğ b) (h':Ğ (î b c)) {p:Int→Int} (hp:Pot (û (î b c)) p):∃f,aoS b f (p 0)∧p (cx (î b c) c)-p (cy (î b c) c)=Jp f (p 0) c:=by
 obtain⟨hg,hc⟩:=(OY h').1 hp;obtain⟨f,hf,hm⟩:=aff h' hg;refine⟨f,⟨fun g hgm=>?_,fun d hd=>?_⟩,SZ hm fun x hx=>pJ h' BH hx⟩
 ·have:=hf g hgm;exact⟨this.hi,this.lo,this.down,this.loss⟩
 ·have:=SZ hm (c:=d) (ajl h hd);have:=hc d hd;omega
def am7 (h:Ğ b) (h':Ğ (î b c)) {f:Int→Int→Int} {z:Int} (hh:aoS b f z):Pot (û (î b c)) (Wc (î b c) f z)∧Wc (î b c) f z (cx (î b c) c)-Wc (î b c) f z (cy (î b c) c)=Jp f z c:=by
 refine⟨(OY h').2 ⟨fun g hg=>V9 h' hg ?_,fun d hd=>?_⟩,Pp h' fun x hx=>pJ h' BH hx⟩
 ·have:=hh.gauge g hg;exact⟨this.hi,this.lo,this.down,this.loss⟩
 ·have:=Pp (f:=f) (z:=z) h' (c:=d) (ajl h hd);have:=hh.cmp d hd;omega
def acJ (h:Ğ b):ĸ (æ b) ((Í b).length+1)=true↔∃f z,aoS b f z:=by
 have:=h.sys.n60;rw[Ŝ h.sys.links (by omega)];constructor
 ·rintro⟨p,hp⟩;obtain⟨f,hf,_⟩:=apm h hp;exact⟨f,_,hf⟩
 ·rintro⟨f,z,hh⟩;exact⟨_,apS h hh⟩
def d_max (h:Ğ b) (h':Ğ (î b c)) {f:Int→Int→Int} {z:Int} (hh:aoS b f z):dLo b c≤Jp f z c∧Jp f z c≤dHi b c:=by
 have ho:ĸ (û (î b c)) ((Í (î b c)).length+1)=true:=by rw[rk h h']; exact(acJ h).2 ⟨f,z,hh⟩
 obtain⟨hp,hd⟩:=am7 h h' hh;have a1:=abb (kd h') (kE h') ho (D0 h') (DZ h') hp;have a2:=abb (kd h') (kE h') ho (DZ h') (D0 h') hp;unfold dLo dHi;omega
def d_all (h:Ğ b) (h':Ğ (î b c)) (ho:ĸ (æ b) ((Í b).length+1)=true) {t:Int} (h1:dLo b c≤t) (h2:t≤dHi b c):∃f z,aoS b f z∧Jp f z c=t:=by
 rw[←rk h h'] at ho;obtain⟨p,hp,hd⟩:=ar2 (kd h') (kE h') ho (D0 h') (DZ h') h1 h2;obtain⟨f,hf,he⟩:=am8 h h' hp;exact⟨f,_,hf,by rw[←he]; exact hd⟩
def ar6 (h:Ğ b) (h':Ğ (î b c)) (ho:ĸ (æ b) ((Í b).length+1)=true):dLo b c≤dHi b c:=by
 rw[←rk h h'] at ho;exact afj (kd h') (kE h') ho (D0 h') (DZ h')
structure Pred (b:ß) (c:Cmp) (s:Int×Int):Prop where
 good:Ğ b
 good2:Ğ (î b (È c))
 order:ahr b c≤FU b c
 has:∃f z,aoS b f z
 ends:s.1-ahr b c≤s.2-FU b c
 bd : -9007199254740992≤s.1-ahr b c∧s.2-FU b c≤9007199254740992
 all:∀f z,aoS b f z→s.1-ahr b c≤Jp f z c∧Jp f z c≤s.2-FU b c
 each:∀t,s.1-ahr b c≤t→t≤s.2-FU b c→∃f z,aoS b f z∧Jp f z c=t
def acg (hp:(ľ b c).2=0):Pred b c (ľ b c).1:=by
 obtain⟨h,h'⟩:=pW hp;rw[TC h h'] at hp ⊢
 by_cases ho:ĸ (æ b) ((Í b).length+1)=true
 ·rw[if_pos ho] at hp ⊢;obtain⟨h1,h2⟩:=af9 hp;rw[h2];have e1:ahr b (È c)=ahr b c:=rfl;have e2:FU b (È c)=FU b c:=rfl;rw[e1,e2] at *
  have s1:dLo b (È c)+ahr b c-ahr b c=dLo b (È c):=by omega
  have s2:dHi b (È c)+FU b c-FU b c=dHi b (È c):=by omega
  refine⟨h,h',h1,(acJ h).1 ho,?_,?_,fun f z hh=>?_,fun t t1 t2=>?_⟩
  ·simp only;rw[s1,s2];exact ar6 h h' ho
  ·simp only;rw[s1,s2];rw[←rk h h'] at ho;have a1:=ajk (kd h') (kE h') ho (D0 h') (DZ h');have a2:=ajk (kd h') (kE h') ho (DZ h') (D0 h');unfold dLo dHi;omega
  ·simp only;rw[s1,s2];exact d_max (c:=È c) h h' hh
  ·simp only at t1 t2;rw[s1] at t1;rw[s2] at t2;exact d_all (c:=È c) h h' ho t1 t2
 ·rw[if_neg ho] at hp;simp at hp
end
def anE {k:Int×Int} (hk:0<k.2) (m n:Int):0<arb (Gz k m) (Gz k n)↔k.1*n<k.1*m:=by
 obtain⟨g,g0,_,g1,g2⟩:=BC (n:=k.1*m) hk;obtain⟨h,h0,_,h1,h2⟩:=BC (n:=k.1*n) hk
 have key:(Gz k n).1*(Gz k m).2<(Gz k m).1*(Gz k n).2↔k.1*n<k.1*m:=by
  have e1:(Gz k n).1*(Gz k m).2*((g:Int)*h)=k.1*n*k.2:=by
   show(oJ (k.1*n) k.2).1*(oJ (k.1*m) k.2).2*((g:Int)*h)=k.1*n*k.2
   calc _=((oJ (k.1*n) k.2).1*h)*((oJ (k.1*m) k.2).2*g):=by ac_rfl
    _=_:=by rw[←h1,←g2]
  have e2:(Gz k m).1*(Gz k n).2*((g:Int)*h)=k.1*m*k.2:=by
   show(oJ (k.1*m) k.2).1*(oJ (k.1*n) k.2).2*((g:Int)*h)=k.1*m*k.2
   calc _=((oJ (k.1*m) k.2).1*g)*((oJ (k.1*n) k.2).2*h):=by ac_rfl
    _=_:=by rw[←g1,←h2]
  have pg:0<(g:Int)*h:=Int.mul_pos (by omega) (by omega);constructor
  ·intro hl;have:=Int.mul_lt_mul_of_pos_right hl pg;rw[e1,e2] at this;exact Int.lt_of_mul_lt_mul_right this (by omega)
  ·intro hl;have:=Int.mul_lt_mul_of_pos_right hl hk;rw[←e1,←e2] at this;exact Int.lt_of_mul_lt_mul_right this (by omega)
 rw[←key];unfold arb
 by_cases he:Gz k m=Gz k n
 ·rw[if_pos he,he];omega
 ·rw[if_neg he]
  split
  ·omega
  ·split<;>omega
def aj8 {k:Int×Int} (hk:0<k.2) {heat:Int×Int} (hh:heat.1≤heat.2):Yh k heat=if k.1<0 then(Gz k heat.2,Gz k heat.1) else(Gz k heat.1,Gz k heat.2):=by
 unfold Yh
 by_cases hn:k.1<0
 ·rw[if_pos hn]
  by_cases he:heat.1=heat.2
  ·rw[he]
   split<;>rfl
  ·rw[if_pos ((anE hk _ _).2 (Int.mul_lt_mul_of_neg_left (by omega) hn))]
 ·rw[if_neg hn,if_neg (fun h=>by
   have h1:=(anE hk _ _).1 h;have h2:=Int.mul_le_mul_of_nonneg_left hh (show 0≤k.1 by omega)
   omega)]
section
variable {B:ß} (h:afZ B)
include h
end
def XB (c:Cmp):Bool:=decide (c.2.2.1.length≤10)&&decide (c.2.2.2.1.length≤10)
theorem an8 (c:Cmp):B0 c=some (XB c):=by
 unfold B0 Ka XB;rw[Û,Û,ĥ]
 by_cases h:c.2.2.1.length≤10
 ·rw[if_pos (by simp[ile]; omega)];simp[ile,h];omega
 ·rw[if_neg (by simp[ile]; omega)];simp[h]
def fewP (b:ß):Bool :=
 !((b.2.2.2.2.1.take 50).any fun c=>!XB c)&&(decide (b.2.1.length≤14)&&(decide (b.2.2.1.length≤45)&&(decide (b.2.2.2.1.length≤14)&&(decide (b.2.2.2.2.1.length≤42)&&decide (b.2.2.2.2.2.length≤12)))))
theorem few_ok (b:ß):O0 b=some (fewP b):=by
 unfold O0 Yv
 have last:(ifb (ile (Ó b.2.1) (14:Int)) (ifb (ile (Ó b.2.2.1) (45:Int)) (ifb (ile (Ó b.2.2.2.1) (14:Int)) (ifb (ile (Ó b.2.2.2.2.1) (42:Int)) (some (ile (Ó b.2.2.2.2.2) (12:Int))) (some false)) (some false)) (some false)) (some false)) =
  some (decide (b.2.1.length≤14)&&(decide (b.2.2.1.length≤45)&&(decide (b.2.2.2.1.length≤14)&&(decide (b.2.2.2.2.1.length≤42)&&decide (b.2.2.2.2.2.length≤12))))):=by
  have e:∀(n m:Nat),ile (n:Int) (m:Int)=decide (n≤m):=fun n m=>by simp[ile]
  rw[Û,Û,Û,Û,Û,show(14:Int)=((14:Nat):Int) from rfl,show(45:Int)=((45:Nat):Int) from rfl,show(42:Int)=((42:Nat):Int) from rfl,show(12:Int)=((12:Nat):Int) from rfl,e,e,e,e,e];generalize decide (b.2.1.length≤14)=x1;generalize decide (b.2.2.1.length≤45)=x2;generalize decide (b.2.2.2.1.length≤14)=x3;generalize decide (b.2.2.2.2.1.length≤42)=x4
  cases x1<;>cases x2<;>cases x3<;>cases x4<;>rfl
 rw[last];refine fq (Ĺ (b.2.2.2.2.1.take 50) (fun c=>!XB c) (fun _=>some false) (some false) (some (decide (b.2.1.length≤14)&&(decide (b.2.2.1.length≤45)&&(decide (b.2.2.2.1.length≤14)&&(decide (b.2.2.2.2.1.length≤42)&&decide (b.2.2.2.2.2.length≤12)))))) (fun _=>rfl) (fun i c hi hc kn=>?_) (fun kn=>?_)) ?_
 ·try dsimp only
  unfold wi;rw[List.length_take] at hi
  have hc':b.2.2.2.2.1[i]?=some c:=by rw[eO] at hc; split at hc<;>simp_all
  rw[Ñ (show i<b.2.2.2.2.1.length by omega),Õ (decide_eq_true (by omega)),Ç hc',an8,À,Ò (by omega) (by omega),ĥ]
 ·try dsimp only
  unfold wi;rw[List.length_take,ĥ]
  split
  ·rename_i h
   have h':50<b.2.2.2.2.1.length:=by rw[Û] at h; simp[ilt] at h; omega
   rw[Ð (decide_eq_false (by omega))]
  ·rfl
 ·unfold fewP
  cases List.any (List.take 50 b.2.2.2.2.1) (fun c=>!XB c)<;>rfl
theorem ap0 {b:ß} (h:fewP b=true):Η b:=by
 simp only[fewP,dh,ff,decide_eq_true_eq] at h;obtain⟨h0,h1,h2,h3,h4,h5⟩:=h;refine⟨by omega,by omega,by omega,by omega,by omega,fun c hc=>?_⟩;rw[eA (by omega)] at h0;have:=fo.1 h0 c hc;simp[XB] at this;omega
section
variable {ρ:Type}
abbrev Rm:Type:=Val (.ptr aqT)
def asm (rm:Rm) (y:List Int) (u:List Bool) (K:Int→Option ρ):Option ρ :=
 É (fun(v8:Int×Int) kk11=>jp y (Ó y) rm u v8.1 v8.2 (fun u9 u10=>kk11 (u9,u10)) K) ((0:Int),(0:Int))
def asj (M:Int→List Bool→(Int×List Bool→Option ρ)→Option ρ) (rm:Rm) (x y:List Int) (c0 v0 v1:Int) (v2:List Bool) (kn:Int→Int→List Bool→Option ρ) (k0:Int×List Bool→Option ρ):Option ρ :=
 ifb (ilt v1 (Ó y)) (ê y v1 fun e=>Þ ((ile (0:Int) v1)&&(ilt v1 (ô v2))) (Ď v2 (Int.toNat v1) fun b=>ifb b (ck (v1+(1:Int)) fun n=>kn v0 n v2)
  (Þ ((ile (0:Int) v1)&&(ilt v1 (ô v2))) (Ď v2 (Int.toNat v1) fun _=>ê x c0 fun a=>Ã (Ë rm a e) fun r=>ck (c0+(1:Int)) fun k1=>M k1 (List.set v2 (Int.toNat v1) true) (fun z=>ck (r+z.1) fun s =>
   Þ ((ile (0:Int) v1)&&(ilt v1 (ô z.2))) (Ď z.2 (Int.toNat v1) fun _=>ck (v1+(1:Int)) fun n=>kn (yK v0 s) n (List.set z.2 (Int.toNat v1) false))))))) (k0 (v0,v2))
def acX (rm:Rm) (x y:List Int):Nat→Int→List Bool→(Int×List Bool→Option ρ)→Option ρ
 |0,_,_,_=>none
 |n+1,k,u,K=>ifb (ieq k (Ó x)) (asm rm y u fun z=>K (z,u)) (ê x k fun e=>Ã (Ë rm e (0:Int)) fun r=>ck (k+(1:Int)) fun k1=>acX rm x y n k1 u fun z=>ck (r+z.1) fun s =>
    É (fun(v:Int×Int×List Bool) kk=>asj (acX rm x y n) rm x y k v.1 v.2.1 v.2.2 (fun a b c=>kk (a,b,c)) K) (s,(0:Int),z.2))
def apB (rm:Rm) (x y:List Int):ξ rm x y=Þ ((ile (0:Int) (Ó y))&&(â (Int.toNat (Ó y)))) (acX rm x y 4 0 (List.replicate (Int.toNat (Ó y)) false) fun z=>some z.1):=rfl
end
section
variable {ρ:Type}
def yx (R:Int→Int→Int):List Int→List Bool→Int
 |n::y,u::us=>(if u then 0 else R 0 n)+yx R y us
 |_,_=>0
def XL (R:Int→Int→Int) (a:Int) (M:List Bool→Int) (y:List Int) (u:List Bool) (v:Int) (i:Nat):Int:=if u[i]?.getD true then v else min v (R a (y[i]?.getD 0)+M (u.set i true))
def θ (R:Int→Int→Int):List Int→List Int→List Bool→Int
 |[],y,u=>yx R y u
 |a::x,y,u=>(List.range y.length).foldl (XL R a (θ R x y) y u) (R a 0+θ R x y u)
structure RmOk (rm:Rm) (R:Int→Int→Int) (V:Int→Prop):Prop where
 run:∀a b,V a→V b→∀{σ:Type} (K:Int→Option σ),Ã (Ë rm a b) K=K (R a b)
 bd:∀a b,V a→V b→-9007199254740992≤R a b∧R a b≤9007199254740992
 zero:V 0
variable {rm:Rm} {R:Int→Int→Int} {V:Int→Prop} (hR:RmOk rm R V)
include hR
theorem XW:∀(y:List Int) (u:List Bool),(∀a∈y,V a)→-(y.length*9007199254740992)≤yx R y u∧yx R y u≤y.length*9007199254740992
 |[],u,_=>by cases u<;>simp[yx]
 |n::y,[],_=>by simp only[yx,dn]; omega
 |n::y,u::us,h=>by
  have h1:=XW y us (fun a ha=>h a (eR _ ha));have h2:=hR.bd 0 n hR.zero (h n (by simp));simp only[yx,dn];push_cast;cases u
  ·rw[if_neg (by simp)]; omega
  ·rw[if_pos rfl]; omega
omit hR in
theorem V6:∀(y:List Int) (u:List Bool) (n:Int) (b:Bool),y.length=u.length→yx R (y++[n]) (u++[b])=yx R y u+(if b then 0 else R 0 n)
 |[],[],n,b,_=>by simp[yx]
 |m::y,c::u,n,b,h=>by
  have:=V6 y u n b (by simpa using h);simp only[fk,yx,this];omega
theorem asl {y:List Int} (hy:y.length≤1000) (hV:∀a∈y,V a) {u:List Bool} (hu:u.length=y.length) (K:Int→Option ρ):asm rm y u K=K (yx R y u):=by
 unfold asm;refine Ĭ (fun v:Int×Int=>∃i:Nat,i≤y.length∧v=(yx R (y.take i) (u.take i),(i:Int))) (fun v=>y.length-v.2.toNat) ?_ ⟨0,by omega,rfl⟩;rintro v ⟨i,hi,rfl⟩;rcases Nat.lt_or_ge i y.length with h|h
 ·have hg:y[i]?=some y[i]:=df h;have hgu:u[i]?=some (u[i]'(by omega)):=df (by omega)
  have e:yx R (y.take (i+1)) (u.take (i+1))=yx R (y.take i) (u.take i)+(if u[i]'(by omega) then 0 else R 0 y[i]):=by
   rw[take_succ hg,take_succ hgu,V6 _ _ _ _ (by simp; omega)]
  have hb:=XW hR (y.take i) (u.take i) (fun a ha=>hV a (gh ha));have hvi:V y[i]:=hV _ (eh h);have hb2:=hR.bd 0 y[i] hR.zero hvi
  have hl:(y.take i).length≤1000:=by simp; omega
  refine .inr ⟨(yx R (y.take (i+1)) (u.take (i+1)),((i+1:Nat):Int)),⟨i+1,h,rfl⟩,by simp; omega,fun kn=>?_⟩;dsimp only;unfold jp;rw[Ñ h,Ç hg,xm,Ç hgu,e]
  cases hui:u[i]'(by omega) with
  |true =>
   rw[if_pos rfl,dT,Ý,Ê h (by omega),gn];rfl
  |false =>
   rw[if_neg (by simp),gG,Ĕ,hR.run 0 y[i] hR.zero hvi,Ò (by omega) (by omega),Ê h (by omega)];rfl
 ·refine .inl fun kn=>?_
  obtain rfl:i=y.length:=by omega
  dsimp only;unfold jp;rw[Ü,List.take_length,←hu,List.take_length]
omit hR in
theorem ahA {D:Int} {f:Int→Nat→Int} (hf:∀v i,-D≤v∧v≤D→-D≤f v i∧f v i≤D):∀(l:List Nat) (v:Int),-D≤v∧v≤D→-D≤l.foldl f v∧l.foldl f v≤D
 |[],v,h=>h
 |i::l,v,h=>ahA hf l _ (hf v i h)
theorem PO {y:List Int} (hV:∀a∈y,V a):∀(x:List Int) (u:List Bool),(∀a∈x,V a)→-((x.length+y.length)*9007199254740992)≤θ R x y u∧θ R x y u≤(x.length+y.length)*9007199254740992
 |[],u,_=>by
  have:=XW hR y u hV;unfold θ;simp only[List.length_nil];omega
 |a::x,u,h=>by
  have ih:=fun u=>PO hV x u (fun b hb=>h b (List.mem_cons_of_mem _ hb));have ha:=h a (by simp);unfold θ;have h0:=ih u;have hb0:=hR.bd a 0 ha hR.zero;refine ahA (fun v i hv=>?_) _ _ ?_
  ·unfold XL
   split
   ·exact hv
   ·have h1:=ih (u.set i true)
    have h2 : -9007199254740992≤R a (y[i]?.getD 0)∧R a (y[i]?.getD 0)≤9007199254740992:=by
     cases hy:y[i]? with
     |none=>exact hR.bd a 0 ha hR.zero
     |some n=>exact hR.bd a n ha (hV n (dl hy))
    simp only[dn] at hv ⊢;push_cast at hv ⊢;omega
  ·simp only[dn];push_cast;omega
theorem match_ok {X y:List Int} (hX:X.length≤100) (hy:y.length≤100) (hVX:∀a∈X,V a) (hV:∀a∈y,V a) :
 ∀(n k:Nat) (u:List Bool) (K:Int×List Bool→Option ρ),k≤X.length→X.length<k+n→u.length=y.length→acX rm X y n (k:Int) u K=K (θ R (X.drop k) y u,u):=by
 intro n
 induction n with
 |zero=>intro k u K h1 h2; omega
 |succ n ih =>
  intro k u K h1 h2 hu;unfold acX;rcases Nat.lt_or_ge k X.length with h|h
  ·have hg:X[k]?=some X[k]:=df h;have ha:V X[k]:=hVX _ (eh h);have hd:X.drop k=X[k]::X.drop (k+1):=eY h
   have hdl:(X.drop (k+1)).length≤100:=by simp; omega
   have hVd:∀a∈X.drop (k+1),V a:=fun a hm=>hVX a (List.mem_of_mem_drop hm);have hb0:=hR.bd X[k] 0 ha hR.zero;have hmb:=fun u=>PO hR hV (X.drop (k+1)) u hVd;have hm0:=hmb u;rw[Ð (show ieq (k:Int) (Ó X)=false by rw[Û]; exact beq_eq_false_iff_ne.2 (by omega)),Ç hg,hR.run _ _ ha hR.zero,Ê h (by omega)];rw[show(k:Int)+1=((k+1:Nat):Int) by push_cast; rfl,ih (k+1) u _ h (by omega) hu];dsimp only;rw[Ò (by omega) (by omega),hd]
   -- the loop
   have hfb:∀i,-((1+100+100)*9007199254740992)≤((List.range y.length).take i).foldl (XL R X[k] (θ R (X.drop (k+1)) y) y u) (R X[k] 0+θ R (X.drop (k+1)) y u)∧((List.range y.length).take i).foldl (XL R X[k] (θ R (X.drop (k+1)) y) y u) (R X[k] 0+θ R (X.drop (k+1)) y u)≤(1+100+100)*9007199254740992:=fun i=>by
    refine ahA (fun v i hv=>?_) _ _ (by omega);unfold XL
    split
    ·exact hv
    ·have h1:=hmb (u.set i true)
     have h2 : -9007199254740992≤R X[k] (y[i]?.getD 0)∧R X[k] (y[i]?.getD 0)≤9007199254740992:=by
      cases hy:y[i]? with
      |none=>exact hR.bd _ 0 ha hR.zero
      |some n=>exact hR.bd _ n ha (hV n (dl hy))
     omega
   refine Ĭ (fun v:Int×Int×List Bool=>∃i:Nat,i≤y.length∧v=(((List.range y.length).take i).foldl (XL R X[k] (θ R (X.drop (k+1)) y) y u) (R X[k] 0+θ R (X.drop (k+1)) y u),(i:Int),u)) (fun v=>y.length-v.2.1.toNat) ?_ ⟨0,by omega,rfl⟩;rintro v ⟨i,hi,rfl⟩;rcases dG i y.length with h3|h3
   ·have hgy:y[i]?=some y[i]:=df h3;have hgu:u[i]?=some (u[i]'(by omega)):=df (by omega);have hvy:V y[i]:=hV _ (eh h3)
    have hgr:(List.range y.length)[i]?=some i:=by rw[fe h3]
    have hv:=hfb i;refine .inr ⟨(((List.range y.length).take (i+1)).foldl (XL R X[k] (θ R (X.drop (k+1)) y) y u) (R X[k] 0+θ R (X.drop (k+1)) y u),((i+1:Nat):Int),u),⟨i+1,h3,rfl⟩,by simp; omega,fun kn=>?_⟩;rw[take_succ hgr,List.foldl_append];simp only[List.foldl_cons,List.foldl_nil];generalize ((List.range y.length).take i).foldl (XL R X[k] (θ R (X.drop (k+1)) y) y u) (R X[k] 0+θ R (X.drop (k+1)) y u)=v at hv;unfold asj;rw[Ñ h3,Ç hgy,xm,Ç hgu];unfold XL;rw[hgu,hgy];simp only[Option.getD_some]
    cases hui:u[i]'(by omega) with
    |true =>
     rw[Ĕ,Ê h3 (by omega),if_pos rfl];rfl
    |false =>
     have hmi:=hmb (u.set i true);have hby:=hR.bd X[k] y[i] ha hvy
     have hgs:(u.set i true)[i]?=some true:=by rw[List.getElem?_set_self (by omega)]
     rw[Ý,xm,Ç hgu,Ç hg,hR.run _ _ ha hvy,Ê h (by omega),Int.toNat_natCast];rw[show(k:Int)+1=((k+1:Nat):Int) by push_cast; rfl,ih (k+1) _ _ h (by omega) (by rw[List.length_set]; exact hu)];dsimp only;rw[Ò (by omega) (by omega),show Þ ((ile (0:Int) (i:Int))&&(ilt (i:Int) (ô (u.set i true)))) (Ď (u.set i true) i fun _=>ck ((i:Int)+(1:Int)) fun n=>kn (yK v (R X[k] y[i]+θ R (X.drop (k+1)) y (u.set i true)),n,List.set (u.set i true) i false))=ê (u.set i true) (i:Int) fun _=>ck ((i:Int)+(1:Int)) fun n=>kn (yK v (R X[k] y[i]+θ R (X.drop (k+1)) y (u.set i true)),n,List.set (u.set i true) i false) from xm _ _ _];rw[Ç hgs,Ê h3 (by omega),tX,if_neg (by simp),List.set_set]
     have hself:u.set i false=u:=by
      have:=hO (as:=u) (i:=i) (by omega);rw[hui] at this;exact this
     rw[hself];rfl
   ·refine .inl fun kn=>?_
    obtain rfl:i=y.length:=by omega
    dsimp only;unfold asj;rw[Ü];rw[show(List.range y.length).take y.length=List.range y.length from List.take_of_length_le (by simp)];rfl
  ·have:k=X.length:=by omega
   subst this;rw[Õ (show ieq ((X.length:Nat):Int) (Ó X)=true by rw[Û]; exact beq_self_eq_true _),asl hR (by omega) hV hu,g8];rfl
theorem arM {x y:List Int} (hx:x.length≤3) (hy:y.length≤100) (hVX:∀a∈x,V a) (hV:∀a∈y,V a):ξ rm x y=some (θ R x y (List.replicate y.length false)):=by
 rw[apB,Û,dE,Ĥ (by simp only[ile]; rw[Ô (by omega)]; simp)];have:=match_ok (ρ:=Int) hR (by omega) hy hVX hV 4 0 (List.replicate y.length false) (fun z=>some z.1) (by omega) (by omega) (by simp);exact this
end
theorem aca {B:ß} (h:afZ B):RmOk (B,Ng B) (fun a b=>Ch B b a) (fun a=>0≤a∧a<((Í B).length+1:Nat)) :=
 ⟨fun a b ha hb _ K=>by rw[vV h ha hb,À],fun a b ha hb=>oW h hb ha,ħ B⟩
def anw {ρ:Type} (ns:List (Int×Int)) (n:Int):@md ρ ns n=@ċ ρ n ns:=(show @md ρ ns n=@rf ρ ns n from rfl).trans (al7 ns n)
def amh {ρ:Type} {b:ß} (hI:In b) {ns:List (Int×Int)} (hl:ns.length≤1000) {E0:Int→Option ρ} {E1:Int×Flat→Option ρ} {E2:Flat→Sys×List (Int×Int)×Int→Option ρ} {E3:Flat→Sys×List (Int×Int)×Int→Bool×Int→Option ρ}
 {K:Flat→Sys×List (Int×Int)×Int→Bool×Int→Option ρ} (R:Int→Option ρ) (h0:∀e,e≠0→E0 e=R e) (h1:∀z,z.1≠0→E1 z=R z.1) (h3:∀z s r,E3 z s r=R 9) :
 ifb (ine (ä b) (0:Int)) (E0 (ä b)) (apl ns E1 (fun z8=>Ã (Ė ((z8.1,z8.2.1),z8.2.2)) fun r9=>ifb (ine r9.2.2 (0:Int)) (E2 z8 r9) (Ã (Ą r9.1) fun r10=>ifb (!r10.1) (E3 z8 r9 r10) (K z8 r9 r10))) b) =
 if (Ă b ns).2≠0 then R (Ă b ns).2 else K (flat (Ă b ns).1) ((((Í (Ă b ns).1).length:Int)+1,æ (Ă b ns).1),Ť (Ă b ns).1,0) (true,0):=by
 have:=rW hI hl R h0 h1 h3 (E2:=E2) (K:=K)
 rwa [iF hI.size hI.num,À] at this
def agu (B:ß) (p q:List Int):Int:=θ (fun a b=>Ch B b a) p q (List.replicate q.length false)
def atL (B:ß) (ns:List (Int×Int)):List Int:=ns.map fun n=>yr B n.1 n.2
def ar3 (B:ß) (f:Int×Int) (day:Int) (x y:List Int):Int×Int :=
 (max 0 ((x.length:Int)-1)*f.1-max 0 ((y.length:Int)-1)*f.2-agu B (atL B (onP day y)) (atL B (onP day x)),max 0 ((x.length:Int)-1)*f.2-max 0 ((y.length:Int)-1)*f.1+agu B (atL B (onP day x)) (atL B (onP day y)))
def arj (day:Int) (x y:List Int):Bool:=(Ů x&&decide (x.length≤3))&&((Ů y&&decide (y.length≤3))&&(decide (x.length+y.length≠0)&&(!(x.any fun i=>y.contains i)&&uh day)))
def xM (b:ß) (day:Int) (x y:List Int):(Int×Int)×Int :=
 if ä b≠0 then((0,0),ä b) else if arj day x y=false then((0,0),1) else
 if (Ă b (onP day (x++y))).2≠0 then((0,0),(Ă b (onP day (x++y))).2) else(ar3 (Ă b (onP day (x++y))).1 b.1 day x y,0)
def aoi {ρ:Type} {B:ß} (h:Ğ B) (hn:∀g∈B.2.1,I64 g.2.2.2.2.1.1) (s:Sys) {ns:List (Int×Int)} (hl:ns.length≤1000) (K:List Int→Option ρ) :
 É (fun(v50:(Val (.pair tI (.slice tI)))) kk53=>ja (B,s) ns (Ó ns) v50.1 v50.2 (fun u51 u52=>kk53 (u51,u52)) K) ((0:Int),[])=K (atL B ns):=by
 refine ë ns (fun i=>atL B (ns.take i)) _ rfl (fun i n hi hg kn=>?_) (fun kn=>?_)
 ·try dsimp only
  unfold ja
  have hlt:(atL B (ns.take i)).length≤1000:=by simp[atL]; omega
  rw[Ñ hi,Ç hg,M8 h hn,À,Ô (by simp only[List.length_singleton]; omega),Am.iff_true,Ê hi (by omega),take_succ hg];unfold atL;rw[List.map_append];rfl
 ·try dsimp only
  unfold ja;rw[Ü,List.take_length]
def anv {ρ:Type}:@pG ρ=@ja ρ:=rfl
def ahO {ρ:Type} {x y:List Int} (hx:x.length≤1000) (hy:y.length≤1000) (K0:Int→Option ρ) (K1 K:Option ρ) (hK:∀j:Nat,K0 j=K) :
 É (fun(v112:Int) kk114=>me x (Ó x) y v112 (fun u113=>kk114 u113) K0 (fun _=>K1)) (0:Int)=if x.any (fun i=>y.contains i) then K else K1:=by
 refine Ĺ x (fun i=>y.contains i) K0 K K1 hK (fun i a hi ha kn=>?_) (fun kn=>?_)
 ·try dsimp only
  unfold me;rw[Ñ hi,Ç ha,lH (by omega),À,Ê hi (by omega)]
  cases y.contains a<;>rfl
 ·try dsimp only
  unfold me;rw[Ü]
def OP {B:ß} (h:afZ B) {p q:List (Int×Int)} (hp:p.length≤3) (hq:q.length≤3):ξ (B,Ng B) (atL B p) (atL B q)=some (agu B (atL B p) (atL B q))∧-60000000000000000≤agu B (atL B p) (atL B q)∧agu B (atL B p) (atL B q)≤60000000000000000:=by
 have hV:∀l:List (Int×Int),∀a∈atL B l,0≤a∧a<((Í B).length+1:Nat):=fun l a ha=>by
  obtain⟨n,_,rfl⟩:=dZ.1 ha;exact ş B n
 have l1:(atL B p).length=p.length:=by simp[atL]
 have l2:(atL B q).length=q.length:=by simp[atL]
 refine⟨arM (aca h) (by omega) (by omega) (hV p) (hV q),?_⟩;have:=PO (aca h) (hV q) (atL B p) (List.replicate (atL B q).length false) (hV p);rw[l1,l2] at this;unfold agu;rw[l2];have h1:((p.length:Int)+q.length)*9007199254740992≤6*9007199254740992:=Int.mul_le_mul_of_nonneg_right (by omega) (by omega);omega
def aoL {b:ß} (hI:In b) (day:Int) {x y:List Int} (hx:x.length≤1000) (hy:y.length≤1000):Cc b day x y=some (xM b day x y):=by
 unfold Cc KR xM;rw[iF hI.size hI.num,À]
 by_cases hc:ä b=0
 case neg=>rw[Õ (bne_iff_ne.2 hc),if_pos hc]
 have hg:=(ð b).1 hc;rw[Ð (by rw[hc]; rfl),if_neg (show ¬(ä b≠0) by simp[hc])];have px:=XP (l:=x) (by omega) 3;have py:=XP (l:=y) (by omega) 3
 have ex:(Ů x&&decide ((x.length:Int)≤3))=(Ů x&&decide (x.length≤3)):=by congr 1; exact decide_eq_decide.2 (by omega)
 have ey:(Ů y&&decide ((y.length:Int)≤3))=(Ů y&&decide (y.length≤3)):=by congr 1; exact decide_eq_decide.2 (by omega)
 rw[ex] at px;rw[ey] at py;rw[px,py,alT];simp only[À];refine(ahO hx hy _ _ (some (((0,0):Int×Int),(1:Int))) (fun j=>?_)).trans ?_
 ·cases h1:(Ů x&&decide (x.length≤3)) with
  |false=>rfl
  |true =>
   cases h2:(Ů y&&decide (y.length≤3)) with
   |false=>rfl
   |true =>
    simp only[dh,decide_eq_true_eq] at h1 h2;rw[dT,Ý,Ý,Û,Û,Ò (by omega) (by omega)]
    by_cases h3:x.length+y.length=0
    ·rw[Õ (show ieq ((x.length:Int)+y.length) 0=true from beq_iff_eq.2 (by omega))]
    ·rw[Ð (show ieq ((x.length:Int)+y.length) 0=false from beq_eq_false_iff_ne.2 (by omega)),Õ (show ige (j:Int) 0=true from decide_eq_true (by omega))]
 unfold arj
 cases h4:x.any (fun i=>y.contains i) with
 |true=>rw[if_pos rfl,if_pos (by simp)]
 |false =>
  rw[if_neg (by simp)]
  cases h1:(Ů x&&decide (x.length≤3)) with
  |false=>rfl
  |true =>
   cases h2:(Ů y&&decide (y.length≤3)) with
   |false=>rfl
   |true =>
    simp only[dh,decide_eq_true_eq] at h1 h2;rw[dT,Ý,Ý,Û,Û,Ò (by omega) (by omega)]
    by_cases h3:x.length+y.length=0
    ·rw[Õ (show ieq ((x.length:Int)+y.length) 0=true from beq_iff_eq.2 (by omega)),if_pos (by simp[h3])]
    rw[Ð (show ieq ((x.length:Int)+y.length) 0=false from beq_eq_false_iff_ne.2 (by omega))]
    cases h5:uh day with
    |false=>rw[gG,Ĕ,if_pos (by simp)]
    |true =>
     rw[dT,Ý,if_neg (by rw[show decide (x.length+y.length≠0)=true from decide_eq_true h3]; simp)];rw[F6 (by simp) (by simp; omega),À,F6 (by simp) (by simp; omega),F6 (by simp) (by simp; omega)];rw[show([x,y]:List (List Int)).flatten=x++y by simp,show([x]:List (List Int)).flatten=x by simp,show([y]:List (List Int)).flatten=y by simp];simp only[anw];refine(amh hI (ns:=onP day (x++y)) (by simp[onP]; omega) (E0:=fun e=>ifb (ine e (0:Int)) (some (((0,0):Int×Int),e)) (Ã (some (onP day x)) fun _=>none)) (E1:=fun z=>ifb (ine z.1 (0:Int)) (some (((0,0):Int×Int),z.1)) (Ã (some (onP day x)) fun _=>none)) (fun e=>some (((0,0):Int×Int),e)) (fun e he=>by rw[Õ (by simp[ine,he])]) (fun z he=>by rw[Õ (by simp[ine,he])]) (fun _ _ _=>rfl)).trans ?_
     split
     ·rfl
     ·rename_i e;have hr:=(jn hI (by simpa using e)).1;have hf:=hg.film;dsimp only;generalize (Ă b (onP day (x++y))).1=B at hr ⊢;rw[À,xr,show((((Í B).length:Int)+1,æ B):Sys)=Ng B from rfl];refine(aoi hr.good hr.num _ (by simp[onP]; omega) _).trans ?_;rw[À];simp only[anv];refine(aoi hr.good hr.num _ (by simp[onP]; omega) _).trans ?_;obtain⟨m1,m2,m3⟩:=OP hr (p:=onP day x) (q:=onP day y) (by simp[onP]; omega) (by simp[onP]; omega);obtain⟨m4,m5,m6⟩:=OP hr (p:=onP day y) (q:=onP day x) (by simp[onP]; omega) (by simp[onP]; omega)
      have hm:∀k z:Int,0≤k→k≤3→0≤z→z≤1000000→0≤k*z∧k*z≤10000000:=by
       intro k z k0 k1 h0 h1;have:k*z≤3*1000000:=fj k1 h1 h0 (by omega);exact⟨fG k0 h0,by omega⟩
      have a1:=hm (max 0 ((x.length:Int)-1)) b.1.1 (by omega) (by omega) (by omega) (by omega);have a2:=hm (max 0 ((x.length:Int)-1)) b.1.2 (by omega) (by omega) (by omega) (by omega);have a3:=hm (max 0 ((y.length:Int)-1)) b.1.1 (by omega) (by omega) (by omega) (by omega);have a4:=hm (max 0 ((y.length:Int)-1)) b.1.2 (by omega) (by omega) (by omega) (by omega);rw[Ò (by omega) (by omega),Ò (by omega) (by omega)];simp only[SA];rw[Ò (by omega) (by omega),Ò (by omega) (by omega),Ò (by omega) (by omega),m4,À,Ò (by omega) (by omega),Ò (by omega) (by omega),Ò (by omega) (by omega),Ò (by omega) (by omega),m1,À,Ò (by omega) (by omega)];rfl
section
variable {D:Int→Int→Int} {V:Int→Prop}
inductive Mt (D:Int→Int→Int):List Int→List Int→Int→Prop
 |nil:Mt D [] [] 0
 |cons {a:Int} {f t r:List Int} {x s:Int}:t.Perm (x::r)→Mt D f r s→Mt D (a::f) t (D a x+s)
def Mt.to {f t t':List Int} {s:Int} (h:Mt D f t s) (p:t.Perm t'):Mt D f t' s:=by
 cases h with
 |nil=>rw[List.nil_perm.1 p]; exact .nil
 |cons q h=>exact .cons (p.symm.trans q) h
def Mt.from' {f f':List Int} (p:f.Perm f'):∀{t:List Int} {s:Int},Mt D f t s→Mt D f' t s:=by
 induction p with
 |nil=>exact fun h=>h
 |cons a p ih =>
  intro t s h
  cases h with
  |cons q h=>exact .cons q (ih h)
 |swap a b f =>
  intro t s h
  cases h with
  | @cons _ _ _ r x s q h =>
   cases h with
   | @cons _ _ _ r' y s' q' h =>
    have:D b x+(D a y+s')=D a y+(D b x+s'):=by omega
    rw[this];exact .cons ((q.trans (q'.cons x)).trans (List.Perm.swap y x r')) (.cons (fQ _) h)
 |trans _ _ ih1 ih2=>exact fun h=>ih2 (ih1 h)
def Mt.head {f T:List Int} {s:Int} (h:Mt D f T s):∀{t:Int} {r:List Int},T.Perm (t::r)→∃a g s',f.Perm (a::g)∧Mt D g r s'∧s=D a t+s':=by
 induction h with
 |nil=>intro t r p; exact absurd p.length_eq (by simp)
 | @cons a f T r0 x s q h ih =>
  intro t r p;have p2:(x::r0).Perm (t::r):=q.symm.trans p
  by_cases hx:x=t
  ·subst hx;exact⟨a,f,s,fQ _,h.to p2.cons_inv,rfl⟩
  ·have hm:t∈r0:=by
    have:t∈x::r0:=p2.symm.subset (by simp);rcases dm.1 this with e|e
    ·exact absurd e.symm hx
    ·exact e
   have p3:r0.Perm (t::r0.erase t):=List.perm_cons_erase hm;obtain⟨b,g,s',h1,h2,h3⟩:=ih p3;have p4:(t::x::r0.erase t).Perm (t::r):=((List.Perm.swap x t _).trans (p3.symm.cons x)).trans p2;exact⟨b,a::g,D a x+s',(h1.cons a).trans (List.Perm.swap b a g),.cons p4.cons_inv.symm h2,by omega⟩
def Mt.zero (tri:∀c x,V c→V x→D c x≤D c 0+D 0 x) (z:D 0 0=0) {f t:List Int} {s:Int} (hf:∀a∈f,V a) (ht:∀b∈t,V b) (h:Mt D (0::f) (0::t) s):∃s',s'≤s∧Mt D f t s':=by
 cases h with
 | @cons _ _ _ r x s q h =>
  by_cases hx:x=0
  ·subst hx;exact⟨s,by omega,h.to q.cons_inv.symm⟩
  ·have hm:x∈t:=by
    have:x∈0::t:=q.symm.subset (by simp);rcases dm.1 this with e|e
    ·exact absurd e hx
    ·exact e
   have p:t.Perm (x::t.erase x):=List.perm_cons_erase hm;have p2:(x::r).Perm (x::0::t.erase x):=(q.symm.trans (p.cons 0)).trans (List.Perm.swap x 0 _);obtain⟨c,g,s',h1,h2,h3⟩:=h.head p2.cons_inv;have:=tri c x (hf c (h1.symm.subset (by simp))) (ht x hm);exact⟨D c x+s',by omega,Mt.from' h1.symm (.cons p h2)⟩
def unl:List Int→List Bool→List Int
 |n::y,b::u=>if b then unl y u else n::unl y u
 |_,_=>[]
def alD:∀{y:List Int} {u:List Bool} {i:Nat} {c:Int},y[i]?=some c→u[i]?=some false→(unl y u).Perm (c::unl y (u.set i true))
 |[],_,_,_,h,_=>by simp at h
 |_::_,[],_,_,_,h=>by simp at h
 |n::y,b::u,0,c,h1,h2=>by
  simp at h1 h2;subst h1 h2;simp[unl]
 |n::y,b::u,i+1,c,h1,h2=>by
  have ih:=alD (y:=y) (u:=u) (i:=i) (c:=c) (by simpa using h1) (by simpa using h2);simp only[unl,List.set_cons_succ]
  cases b with
  |true=>rw[if_pos rfl,if_pos rfl]; exact ih
  |false=>rw[if_neg (by simp),if_neg (by simp)]; exact(ih.cons n).trans (List.Perm.swap c n _)
def XJ:∀{y:List Int} {u:List Bool} {c:Int},c∈unl y u→∃i:Nat,y[i]?=some c∧u[i]?=some false
 |[],u,c,h=>by cases u<;>simp[unl] at h
 |_::_,[],c,h=>by simp[unl] at h
 |n::y,b::u,c,h=>by
  simp only[unl] at h
  cases b with
  |true =>
   rw[if_pos rfl] at h;obtain⟨i,h1,h2⟩:=XJ h;exact⟨i+1,by simpa using h1,by simpa using h2⟩
  |false =>
   rw[if_neg (by simp)] at h;rcases dm.1 h with rfl|h
   ·exact⟨0,by simp,by simp⟩
   ·obtain⟨i,h1,h2⟩:=XJ h;exact⟨i+1,by simpa using h1,by simpa using h2⟩
def alE:∀y:List Int,unl y (List.replicate y.length false)=y
 |[]=>rfl
 |n::y=>by simp[gM,unl,alE y]
abbrev zs (n:Nat):List Int:=List.replicate n 0
def al3:∀(y:List Int) (u:List Bool),Mt D (unl y u) (zs (unl y u).length) (yx (fun a b=>D b a) y u)
 |[],u=>by cases u<;>exact .nil
 |_::_,[]=>.nil
 |n::y,b::u=>by
  have ih:=al3 y u;simp only[unl,yx]
  cases b with
  |true=>simpa using ih
  |false =>
   rw[if_neg (by simp),if_neg (by simp)];exact .cons (fQ _) ih
def aqR:∀{f:List Int} {s s':Int},Mt D f (zs f.length) s→Mt D f (zs f.length) s'→s=s'
 |[],s,s',h,h'=>by cases h; cases h'; rfl
 |a::f,s,s',h,h'=>by
  cases h with
  | @cons _ _ _ r x s q h =>
   cases h' with
   | @cons _ _ _ r' x' s' q' h' =>
    have e1:(x::r)=zs (f.length+1):=List.perm_replicate.1 q.symm;have e2:(x'::r')=zs (f.length+1):=List.perm_replicate.1 q'.symm;rw[show zs (f.length+1)=0::zs f.length from rfl] at e1 e2
    injection e1 with e1 e3
    injection e2 with e2 e4
    subst e1 e2 e3 e4;rw[aqR h h']
def arU (g:Nat→Int) (p:Nat→Bool):∀(l:List Nat) (v:Int),l.foldl (fun v i=>if p i then v else min v (g i)) v≤v∧(∀i∈l,p i=false→l.foldl (fun v i=>if p i then v else min v (g i)) v≤g i)∧(l.foldl (fun v i=>if p i then v else min v (g i)) v=v∨∃i∈l,p i=false∧l.foldl (fun v i=>if p i then v else min v (g i)) v=g i)
 |[],v=>⟨dR _,fun i h=>by simp at h,.inl rfl⟩
 |k::l,v=>by
  obtain⟨h1,h2,h3⟩:=arU g p l (if p k then v else min v (g k));rw[f5];refine⟨?_,fun i hi hp=>?_,?_⟩
  ·cases hk:p k with
   |true=>rw[hk] at h1; simp only[if_true] at h1 ⊢; exact h1
   |false=>rw[hk] at h1; simp only[dw,if_false] at h1 ⊢; omega
  ·rcases dm.1 hi with rfl|hi
   ·rw[hp] at h1;rw[hp];simp only[dw,if_false] at h1 ⊢;omega
   ·exact h2 i hi hp
  ·rcases h3 with h3|⟨i,hi,hp,h3⟩
   ·cases hk:p k with
    |true=>rw[hk,if_pos rfl] at h3; left; rw[if_pos rfl]; exact h3
    |false =>
     rw[hk] at h3;simp only[dw,if_false] at h3 ⊢
     by_cases hv:v≤g k
     ·left; omega
     ·right; exact⟨k,by simp,hk,by omega⟩
   ·right; exact⟨i,eR _ hi,hp,h3⟩
def amy (tri:∀c x,V c→V x→D c x≤D c 0+D 0 x) (z:D 0 0=0) (v0:V 0) {y:List Int} (hy:∀b∈y,V b):∀(x:List Int) (u:List Bool),(∀a∈x,V a) →
 Mt D (unl y u++zs x.length) (x++zs (unl y u).length) (θ (fun a b=>D b a) x y u)∧∀s,Mt D (unl y u++zs x.length) (x++zs (unl y u).length) s→θ (fun a b=>D b a) x y u≤s
 |[],u,_=>by
  have h:=al3 (D:=D) y u;rw[show unl y u++zs ([]:List Int).length=unl y u by simp,f7];exact⟨h,fun s hs=>Int.le_of_eq (aqR h hs)⟩
 |a::x,u,hx=>by
  have hx':∀b∈x,V b:=fun b hb=>hx b (eR _ hb);have ih:=fun u=>amy tri z v0 hy x u hx'
  have hz:∀(l:List Int) (n:Nat),(∀b∈l,V b)→∀b∈l++zs n,V b:=fun l n hl b hb=>by
   rcases dk.1 hb with hb|hb
   ·exact hl b hb
   ·rw[gj hb]; exact v0
  have hu':∀u:List Bool,∀b∈unl y u,V b:=fun u b hb=>by
   obtain⟨i,h,_⟩:=XJ hb;exact hy b (dl h)
  have e:θ (fun a b=>D b a) (a::x) y u=(List.range y.length).foldl (fun v i=>if u[i]?.getD true then v else min v (D (y[i]?.getD 0) a+θ (fun a b=>D b a) x y (u.set i true))) (D 0 a+θ (fun a b=>D b a) x y u):=rfl;obtain⟨f1,f2,f3⟩:=arU (fun i=>D (y[i]?.getD 0) a+θ (fun a b=>D b a) x y (u.set i true)) (fun i=>u[i]?.getD true) (List.range y.length) (D 0 a+θ (fun a b=>D b a) x y u);rw[←e] at f1 f2 f3
  -- a zero takes a
  have pz:(unl y u++zs (a::x).length).Perm (0::(unl y u++zs x.length)):=g9
  -- one of the other side takes a
  have pc:∀(i:Nat) (c:Int),y[i]?=some c→u[i]?=some false→(unl y u++zs (a::x).length).Perm (c::0::(unl y (u.set i true)++zs x.length))∧(x++zs (unl y u).length).Perm (0::(x++zs (unl y (u.set i true)).length)):=fun i c h1 h2=>by
   have p:=alD h1 h2
   have hl:(unl y u).length=(unl y (u.set i true)).length+1:=by rw[p.length_eq]; rfl
   refine⟨((p.append_right _).trans ?_),?_⟩
   ·exact(show(unl y (u.set i true)++zs (a::x).length).Perm (0::(unl y (u.set i true)++zs x.length)) from g9).cons c
   ·rw[hl]; exact g9
  constructor
  ·rcases f3 with f3|⟨i,hi,hp,f3⟩
   ·rw[f3];refine Mt.from' pz.symm ?_;exact Mt.cons (fQ _) (ih u).1
   ·have hi:=fV.1 hi;have hyi:y[i]?=some y[i]:=df hi
    have hu:u[i]?=some false:=by
     cases hu:u[i]? with
     |none=>rw[hu] at hp; cases hp
     |some b=>rw[hu] at hp; exact congrArg some hp
    obtain⟨p1,p2⟩:=pc i y[i] hyi hu;rw[f3,hyi];refine Mt.from' p1.symm ?_;refine Mt.cons (fQ _) ?_;have h0:=(ih (u.set i true)).1;have:=Mt.cons (D:=D) (a:=0) (x:=0) p2 h0;rw[z,ig] at this;exact this
  ·intro s hs;obtain⟨c,g,s',h1,h2,h3⟩:=hs.head (fQ _);have hc:c∈unl y u++zs (a::x).length:=h1.symm.subset (by simp);rcases dk.1 hc with hc|hc
   ·obtain⟨i,hyi,hu⟩:=XJ hc;obtain⟨p1,p2⟩:=pc i c hyi hu;have p3:(0::(unl y (u.set i true)++zs x.length)).Perm g:=(p1.symm.trans h1).cons_inv;obtain⟨s'',h4,h5⟩:=Mt.zero tri z (hz _ _ (hu' _)) (hz _ _ hx') ((Mt.from' p3.symm h2).to p2);have h6:=(ih (u.set i true)).2 s'' h5;have h7:=f2 i (fV.2 (dj.1 hyi).1) (by rw[hu]; rfl);rw[hyi] at h7;simp only[fP] at h7;omega
   ·have:c=0:=gj hc;subst this;have p3:=(pz.symm.trans h1).cons_inv;have h6:=(ih u).2 s' (Mt.from' p3.symm h2);omega
def ō (D:Int→Int→Int):List Int→List Int→Int
 |[],_=>0
 |a::f,t=>(List.range t.length).foldl (fun v i=>min v (D a (t[i]?.getD 0)+ō D f (t.take i++t.drop (i+1)))) 1152921504606846976
def J7 {K:Int} (hb:∀a b,V a→V b→-K≤D a b∧D a b≤K):∀(f t:List Int),(∀a∈f,V a)→(∀b∈t,V b)→f.length=t.length→(f.length:Int)*K<1152921504606846976→0≤K →
 Mt D f t (ō D f t)∧(∀s,Mt D f t s→ō D f t≤s)∧-((f.length:Int)*K)≤ō D f t∧ō D f t≤(f.length:Int)*K
 |[],t,_,_,hl,hk,h0=>by
  have:t=[]:=List.eq_nil_of_length_eq_zero (by simpa using hl.symm);subst this;refine⟨.nil,fun s hs=>?_,by simp[ō],by simp[ō]⟩;cases hs;exact dR _
 |a::f,t,hf,ht',hl,hk,h0=>by
  have hlen:f.length+1=t.length:=by simpa using hl
  have hk':(f.length:Int)*K<1152921504606846976:=by
   simp only[dn] at hk;push_cast at hk;rw[fX] at hk;omega
  have hkk:((a::f).length:Int)*K=(f.length:Int)*K+K:=by simp only[dn]; push_cast; rw[fX,gA]
  rw[hkk] at hk ⊢
  have hsub:∀i,i<t.length→f.length=(t.take i++t.drop (i+1)).length:=fun i hi=>by simp; omega
  have ha:=hf a (by simp)
  have ih:=fun i hi=>J7 hb f (t.take i++t.drop (i+1)) (fun b h=>hf b (eR _ h)) (fun b h=>by
   rcases dk.1 h with h|h
   ·exact ht' b (gh h)
   ·exact ht' b (List.mem_of_mem_drop h)) (hsub i hi) hk' h0
  have perm:∀i (hi:i<t.length),t.Perm (t[i]::(t.take i++t.drop (i+1))):=fun i hi=>by
   have:t=t.take i++t[i]::t.drop (i+1):=by rw[←eY hi,hZ]
   rw[show(t[i]::(t.take i++t.drop (i+1)))=(t[i]::(t.take i++t.drop (i+1))) from rfl];exact(List.Perm.of_eq this).trans g9
  have e:ō D (a::f) t=(List.range t.length).foldl (fun v i=>if (false:Bool) then v else min v (D a (t[i]?.getD 0)+ō D f (t.take i++t.drop (i+1)))) 1152921504606846976:=rfl;obtain⟨f1,f2,f3⟩:=arU (fun i=>D a (t[i]?.getD 0)+ō D f (t.take i++t.drop (i+1))) (fun _=>false) (List.range t.length) 1152921504606846976;rw[←e] at f1 f2 f3
  have f2':∀i (hi:i<t.length),ō D (a::f) t≤D a t[i]+ō D f (t.take i++t.drop (i+1)):=fun i hi=>by
   have:=f2 i (fV.2 hi) rfl;rw[df hi] at this;exact this
  -- some element is taken
  have ht:∃i,∃hi:i<t.length,ō D (a::f) t=D a t[i]+ō D f (t.take i++t.drop (i+1)):=by
   rcases f3 with f3|⟨i,hi,_,f3⟩
   ·have h1:=f2' 0 (by omega);have h2:=(ih 0 (by omega)).2.2;have h3:=hb a t[0] ha (ht' _ (eh _));omega
   ·have hi:=fV.1 hi;refine⟨i,hi,?_⟩;rw[df hi] at f3;exact f3
  obtain⟨i,hi,et⟩:=ht;obtain⟨i1,i2,i3,i4⟩:=ih i hi;have hbi:=hb a t[i] ha (ht' _ (eh _));refine⟨?_,fun s hs=>?_,by omega,by omega⟩
  ·rw[et]; exact .cons (perm i hi) i1
  ·cases hs with
   | @cons _ _ _ r x s q h =>
    have hx:x∈t:=q.symm.subset (by simp);obtain⟨j,hj,ej⟩:=dz.1 hx;have p:(x::r).Perm (t[j]::(t.take j++t.drop (j+1))):=q.symm.trans (perm j hj);rw[ej] at p;have h1:=(ih j hj).2.1 s (h.to p.cons_inv);have h2:=f2' j hj;rw[ej] at h2;omega
def acV {K:Int} (hb:∀a b,V a→V b→-K≤D a b∧D a b≤K) (h0:0≤K) (tri:∀c x,V c→V x→D c x≤D c 0+D 0 x) (z:D 0 0=0) (v0:V 0) (x y:List Int) (hx:∀a∈x,V a) (hy:∀b∈y,V b) (hk:((x.length+y.length:Nat):Int)*K<1152921504606846976) :
 ō D (y++zs x.length) (x++zs y.length)=θ (fun a b=>D b a) x y (List.replicate y.length false):=by
 have hz:∀(l:List Int) (n:Nat),(∀b∈l,V b)→∀b∈l++zs n,V b:=fun l n hl b hb=>by
  rcases dk.1 hb with hb|hb
  ·exact hl b hb
  ·rw[gj hb]; exact v0
 have h1:=amy tri z v0 hy x (List.replicate y.length false) hx;rw[alE] at h1;obtain⟨a1,a2,_⟩:=J7 hb (y++zs x.length) (x++zs y.length) (hz _ _ hy) (hz _ _ hx) (by simp; omega) (by rw[show(y++zs x.length).length=x.length+y.length by simp; omega]; exact hk) h0;have b1:=a2 _ h1.1;have b2:=h1.2 _ a1;omega
end
def WA (x y:Int) (g:Bool):∀m:List (Int×Bool),uF (k:=tI) (v:=.bool) x (OO (k:=tI) (v:=.bool) y g m)=if x=y then some g else uF (k:=tI) (v:=.bool) x m
 |[]=>by
  unfold OO uF lm uF
  by_cases h:x=y<;>simp[h]
 |e::m=>by
  unfold OO
  by_cases h:y=e.1
  ·have:lm tI y e.1=true:=by simp[lm,h]
   rw[this]
   try dsimp only
   unfold uF lm
   by_cases h2:x=y
   ·simp[h2]
   ·have:¬x=e.1:=fun h3=>h2 (h3.trans h.symm);simp[h2,this]
  ·have:lm tI y e.1=false:=by simp[lm,h]
   rw[this]
   try dsimp only
   have ih:=WA x y g m;unfold uF
   by_cases h2:x=e.1
   ·have:lm tI x e.1=true:=by simp[lm,h2]
    rw[this];have:¬x=y:=fun h3=>h (h3.symm.trans h2);simp[this]
   ·have:lm tI x e.1=false:=by simp[lm,h2]
    rw[this];exact ih
def TJ (l:List Int):List (Int×Bool):=l.foldl (fun m x=>OO (k:=tI) (v:=.bool) x true m) []
def yS (l:List Int) (x:Int):TJ (l++[x])=OO (k:=tI) (v:=.bool) x true (TJ l):=by unfold TJ; rw[List.foldl_append]; rfl
def acS (x:Int):∀(l:List Int) (m:List (Int×Bool)),uF (k:=tI) (v:=.bool) x (l.foldl (fun m x=>OO (k:=tI) (v:=.bool) x true m) m)=if l.contains x then some true else uF (k:=tI) (v:=.bool) x m
 |[],m=>by simp
 |y::l,m=>by
  rw[f5,acS x l,WA]
  by_cases h:x=y
  ·subst h; simp
  ·simp[h]
def acQ (l:List Int) (x:Int):uF (k:=tI) (v:=.bool) x (TJ l)=if l.contains x then some true else none:=acS x l []
def F4 (b:ß) (s:Int×Int):List Int:=if s.1=3 then(match b.2.2.2.2.1[s.2.toNat]? with|some c=>c.2.2.1++c.2.2.2.1|none=>[]) else(match b.2.1[s.2.toNat]? with|some g=>[g.1]|none=>[])
def S7 (b:ß) (ss looks:List (Int×Int)):List Int:=ss.flatMap (F4 b)++looks.map fun n=>n.1
def Ju (ss:List (Int×Int)):List Int:=(ss.filter fun s=>s.1==3).map fun s=>s.2
def FS (w:List Int):Nat→List Cmp→List Cmp
 |_,[]=>[]
 |i,c::t=>if w.contains (i:Int) then c::FS w (i+1) t else FS w (i+1) t
def cutP (b:ß) (ss looks:List (Int×Int)):ß :=
 (b.1,b.2.1.filter fun g=>(S7 b ss looks).contains g.1,b.2.2.1.filter fun u=>(S7 b ss looks).contains u.1,b.2.2.2.1.filter fun l=>(S7 b ss looks).contains l.1,FS (Ju ss) 0 b.2.2.2.2.1,looks)
def aso (b:ß) (s:Int×Int):Prop:=((s.1=1∨s.1=2)∧0≤s.2∧s.2<b.2.1.length)∨(s.1=3∧0≤s.2∧s.2<b.2.2.2.2.1.length)
def Xc (w:List Int) (c:Cmp):∀(l:List Cmp) (i:Nat),FS w i (l++[c])=FS w i l++if w.contains ((i+l.length:Nat):Int) then[c] else[]
 |[],i=>by simp only[f7,FS,dH,fT]
 |a::l,i=>by
  have e:((i+1+l.length:Nat):Int)=((i+(l.length+1):Nat):Int):=by congr 1; omega
  simp only[fk,FS,Xc w c l (i+1),dn,e]
  split<;>rfl
def Su (w:List Int):∀(l:List Cmp) (i:Nat),(FS w i l).length≤l.length
 |[],i=>by simp[FS]
 |a::l,i=>by
  have:=Su w l (i+1);simp only[FS]
  split<;>simp only[dn]<;>omega
def A3 {ρ:Type} (x:Int) (l:List Int) (f:Bool→Option ρ) (g:Option ρ):abL (k:=tI) (v:=.bool) x (TJ l) f g=if l.contains x then f true else g:=by
 unfold abL;rw[acQ]
 by_cases h:l.contains x=true
 ·rw[if_pos h,if_pos h]
 ·rw[if_neg h,if_neg h]
section
variable {ρ:Type}
def cut_L3 (l:List (Int×Int)) (hl:l.length≤1000) (ids:List Int) (K:List (Int×Int)→Option ρ):É (fun(v47:(Val (.pair tI (.slice Â)))) kk50=>ve l (Ó l) (TJ ids) v47.1 v47.2 (fun u48 u49=>kk50 (u48,u49)) K) ((0:Int),[])=K (l.filter fun u=>ids.contains u.1):=by
 refine ë l (fun i=>(l.take i).filter fun u=>ids.contains u.1) _ rfl (fun i a hi ha kn=>?_) (fun kn=>?_)
 ·try dsimp only
  unfold ve;have h1:=ro (fun u:Int×Int=>ids.contains u.1) l i;rw[Ñ hi,Ç ha,A3,take_succ ha,List.filter_append]
  by_cases h:ids.contains a.1=true
  ·rw[if_pos h,Ĕ,Ĥ (Ô (by simp only[dN]; omega)),Ê hi (by omega)];simp only[eo,eE,h,if_pos]
  ·rw[if_neg h,Ê hi (by omega)];simp only[eo,eE,h,if_neg,dw,not_false_eq_true,dU]
 ·try dsimp only
  unfold ve;rw[Ü,List.take_length]
def cut_L4 (l:List M9) (hl:l.length≤1000) (ids:List Int) (K:List M9→Option ρ):É (fun(v47:(Val (.pair tI (.slice Ŏ)))) kk50=>vd l (Ó l) (TJ ids) v47.1 v47.2 (fun u48 u49=>kk50 (u48,u49)) K) ((0:Int),[])=K (l.filter fun u=>ids.contains u.1):=by
 refine ë l (fun i=>(l.take i).filter fun u=>ids.contains u.1) _ rfl (fun i a hi ha kn=>?_) (fun kn=>?_)
 ·try dsimp only
  unfold vd;have h1:=ro (fun u:M9=>ids.contains u.1) l i;rw[Ñ hi,Ç ha,A3,take_succ ha,List.filter_append]
  by_cases h:ids.contains a.1=true
  ·rw[if_pos h,Ĕ,Ĥ (Ô (by simp only[dN]; omega)),Ê hi (by omega)];simp only[eo,eE,h,if_pos]
  ·rw[if_neg h,Ê hi (by omega)];simp only[eo,eE,h,if_neg,dw,not_false_eq_true,dU]
 ·try dsimp only
  unfold vd;rw[Ü,List.take_length]
def cut_L5 (l:List Cmp) (hl:l.length≤1000) (hp:∀c∈l,c.2.2.1.length≤1000∧c.2.2.2.1.length≤1000) (w:List Int) (K:List Cmp→Option ρ):É (fun(v47:(Val (.pair tI (.slice Ì)))) kk50=>vc l (Ó l) (TJ w) v47.1 v47.2 (fun u48 u49=>kk50 (u48,u49)) K) ((0:Int),[])=K (FS w 0 l):=by
 refine ë l (fun i=>FS w 0 (l.take i)) _ rfl (fun i a hi ha kn=>?_) (fun kn=>?_)
 ·try dsimp only
  unfold vc;have h1:=Su w (l.take i) 0;have h2:=hp a (List.mem_of_getElem? ha)
  have e:(l.take i).length=i:=by rw[dv]; omega
  rw[Ñ hi,Ç ha,A3,take_succ ha,Xc,e,dC]
  by_cases h:w.contains (i:Int)=true
  ·rw[if_pos h,if_pos h,Ĕ,Ĥ (Ô (by omega)),Ĥ (Ô (by omega)),Ĥ (Ô (by simp only[dN]; omega)),Ê hi (by omega)]
  ·rw[if_neg h,if_neg h,Ê hi (by omega)];simp only[dU]
 ·try dsimp only
  unfold vc;rw[Ü,List.take_length]
def cut_L2 (looks:List (Int×Int)) (hl:looks.length≤1000) (ids:List Int) (K:List (Int×Bool)→Option ρ):É (fun(v51:(Val (.pair tI (.map tI .bool)))) kk54=>vf looks (Ó looks) v51.1 v51.2 (fun u52 u53=>kk54 (u52,u53)) K) ((0:Int),TJ ids)=K (TJ (ids++looks.map fun n=>n.1)):=by
 refine ë looks (fun i=>TJ (ids++(looks.take i).map fun n=>n.1)) _ (by simp) (fun i a hi ha kn=>?_) (fun kn=>?_)
 ·try dsimp only
  unfold vf;rw[Ñ hi,Ç ha,Ê hi (by omega),take_succ ha,List.map_append,←List.append_assoc,List.map_singleton,yS]
 ·try dsimp only
  unfold vf;rw[Ü,List.take_length]
def cut_L1 (xs:List Int) (hl:xs.length≤10000) (ids:List Int) (K:List (Int×Bool)→Option ρ):É (fun(v13:(Val (.pair tI (.map tI .bool)))) kk16=>vg xs (Ó xs) v13.1 v13.2 (fun u14 u15=>kk16 (u14,u15)) K) ((0:Int),TJ ids)=K (TJ (ids++xs)):=by
 refine ë xs (fun i=>TJ (ids++xs.take i)) _ (by simp) (fun i a hi ha kn=>?_) (fun kn=>?_)
 ·try dsimp only
  unfold vg;rw[Ñ hi,Ç ha,Ê hi (by omega),take_succ ha,←List.append_assoc,yS]
 ·try dsimp only
  unfold vg;rw[Ü,List.take_length]
end
def ka {ρ α:Type} {l:List α} {i:Int} (h0:0≤i) {a:α} (h:l[i.toNat]?=some a) (f:α→Option ρ):ê l i f=f a:=by
 obtain⟨n,rfl⟩:=gV h0;exact Ç (by simpa using h) f
def cut_ok {b:ß} (hs:Η b) {ss looks:List (Int×Int)} (h1:ss.length≤1000) (h2:looks.length≤1000) (hv:∀s∈ss,aso b s):SO b ss looks=some (cutP b ss looks):=by
 have g1:=hs.gauges; have g2:=hs.uses; have g3:=hs.loans; have g4:=hs.compares; have g5:=hs.looks;unfold SO amF HK;refine ë ss (fun i=>(TJ ((ss.take i).flatMap (F4 b)),TJ (Ju (ss.take i)))) _ rfl (fun i s hi ha kn=>?_) (fun kn=>?_)
 ·try dsimp only
  unfold BL;have hok:=hv s (List.mem_of_getElem? ha);rw[Ñ hi,Ç ha,take_succ ha,List.flatMap_append]
  have e3:Ju (ss.take i++[s])=Ju (ss.take i)++if s.1=3 then[s.2] else[]:=by
   unfold Ju;rw[List.filter_append,List.map_append];congr 1
   by_cases h:s.1=3<;>simp[h]
  rw[e3];rcases hok with⟨hk,h0,h3⟩|⟨hk,h0,h3⟩
  ·have hg:b.2.1[s.2.toNat]?=some b.2.1[s.2.toNat]:=df (by omega);generalize b.2.1[s.2.toNat]=g at hg
   have e1:F4 b s=[g.1]:=by
    unfold F4;rw[if_neg (by omega),hg]
   have e2:List.flatMap (F4 b) [s]=[g.1]:=by simp[e1]
   rw[Ð (decide_eq_false (by omega)),if_neg (by omega),dU,e2,yS];rcases hk with hk|hk
   ·rw[Õ (decide_eq_true hk),ka h0 hg,Ê hi (by omega)]
   ·rw[Ð (decide_eq_false (by omega)),Õ (decide_eq_true hk),ka h0 hg,Ê hi (by omega)]
  ·have hc:b.2.2.2.2.1[s.2.toNat]?=some b.2.2.2.2.1[s.2.toNat]:=df (by omega);have hp:=hs.piles b.2.2.2.2.1[s.2.toNat] (eh _);generalize b.2.2.2.2.1[s.2.toNat]=c at hc hp
   have e1:F4 b s=c.2.2.1++c.2.2.2.1:=by
    unfold F4;rw[if_pos hk,hc]
   have e2:List.flatMap (F4 b) [s]=c.2.2.1++c.2.2.2.1:=by simp[e1]
   rw[Ð (decide_eq_false (by omega)),Ð (decide_eq_false (by omega)),Ð (decide_eq_false (by omega)),Ĥ (decide_eq_true hk),if_pos hk,e2,ka h0 hc,ka h0 hc,qn (by simp) (by simp; omega),À];rw[show([c.2.2.1,c.2.2.2.1]:List (List Int)).flatten=c.2.2.1++c.2.2.2.1 by simp];refine(cut_L1 (c.2.2.1++c.2.2.2.1) (by simp; omega) _ _).trans ?_;rw[yS,Ê hi (by omega)]
 ·try dsimp only
  unfold BL;rw[Ü];dsimp only;rw[List.take_length];refine(cut_L2 looks h2 _ _).trans ?_;rw[show(ss.flatMap (F4 b)++looks.map fun n=>n.1)=S7 b ss looks from rfl];unfold BU
  try dsimp only
  rw[Ĥ (Ô (by omega)),À]
  have ek:(List.filter (fun g=>(uF (k:=tI) (v:=.bool) g.1 (TJ (S7 b ss looks))).getD false) b.2.1)=b.2.1.filter fun g=>(S7 b ss looks).contains g.1:=by
   refine List.filter_congr fun g _=>?_;rw[acQ]
   cases(S7 b ss looks).contains g.1<;>rfl
  rw[ek];unfold oi;dsimp only;refine(cut_L3 b.2.2.1 g2 _ _).trans ?_;refine(cut_L4 b.2.2.2.1 g3 _ _).trans ?_;refine(cut_L5 b.2.2.2.2.1 g4 hs.piles _ _).trans ?_;rfl
def alW {α:Type} [DecidableEq α] {l m:List α} (hl:l.length=m.length) (h:Ħ (fun i a=>if m[i]?=some a then none else some false) 0 l=none):l=m:=by
 have:=jf.1 h;refine List.ext_getElem hl fun i h1 h2=>?_;have h3:=this i l[i] (df h1);rw[dC] at h3
 split at h3
 ·rename_i h4;rw[df h2] at h4;exact(Option.some.inj h4).symm
 ·cases h3
def alV {α:Type} [DecidableEq α] {l m:List α} {b:Bool} (h:Ħ (fun i a=>if m[i]?=some a then none else some false) 0 l=some b):b=false∧l≠m:=by
 constructor
 ·have:∀(k:Nat) (x:List α) (b:Bool),Ħ (fun i a=>if m[i]?=some a then none else some false) k x=some b→b=false:=by
   intro k x
   induction x generalizing k with
   |nil=>intro b h; cases h
   |cons a t ih =>
    intro b h;unfold Ħ at h
    split at h
    ·rename_i c hc
     split at hc
     ·cases hc
     ·cases hc; cases h; rfl
    ·exact ih _ _ h
  exact this _ _ _ h
 ·intro e;subst e;rw[jf.2 fun j a ha=>by rw[dC,if_pos ha]] at h;cases h
instance dec1:DecidableEq ((Int×Int)×Int):=fun a b=>instDecidableEqProd a b
instance dec2:DecidableEq ((Int×Int)×((Int×Int)×Int)):=fun a b=>instDecidableEqProd a b
instance dec3:DecidableEq (Int×(Int×Int)×((Int×Int)×Int)):=fun a b=>instDecidableEqProd a b
instance dec4:DecidableEq (Int×Int×(Int×Int)×((Int×Int)×Int)):=fun a b=>instDecidableEqProd a b
instance decG:DecidableEq ì:=fun a b=>instDecidableEqProd a b
instance decL:DecidableEq M9:=fun a b=>instDecidableEqProd a b
instance decI4:DecidableEq (Int×(Int×(Int×Int))):=fun a b=>instDecidableEqProd a b
instance decI5:DecidableEq (List Int×Int×(Int×(Int×Int))):=fun a b=>instDecidableEqProd a b
instance decI6:DecidableEq (List Int×List Int×Int×(Int×(Int×Int))):=fun a b=>instDecidableEqProd a b
instance decI7:DecidableEq (Int×List Int×List Int×Int×(Int×(Int×Int))):=fun a b=>instDecidableEqProd a b
instance decC:DecidableEq Cmp:=fun a b=>instDecidableEqProd a b
def Yq {α:Type} [DecidableEq α] (x:α) (l:List α):Bool:=l.any fun a=>decide (x=a)
def aiV {α:Type} [DecidableEq α] {x:α} {l:List α}:Yq x l=true↔x∈l:=by
 unfold Yq;rw[List.any_eq_true];exact⟨fun⟨a,h1,h2⟩=>by rw[of_decide_eq_true h2]; exact h1,fun h=>⟨x,h,decide_eq_true rfl⟩⟩
def agw {α:Type} [DecidableEq α] (l:List α) (x:α):ige (match l.findIdx? (fun a=>decide (x=a)) with|some j=>(j:Int)|none=>-1) 0=Yq x l:=by
 cases h:l.findIdx? (fun a=>decide (x=a)) with
 |none =>
  have:Yq x l=false:=by
   cases hm:Yq x l with
   |false=>rfl
   |true=>have:=eZ.1 h x (aiV.1 hm); simp at this
  rw[this];rfl
 |some j =>
  obtain⟨hj,hp,_⟩:=dV.1 h
  have:x∈l:=by rw[of_decide_eq_true hp]; exact eh _
  rw[aiV.2 this];exact decide_eq_true (by dsimp only; omega)
def amA {ρ:Type} (o:Option Nat) (f:Int→Option ρ):(match o with|some j=>f (j:Int)|none=>f (-1))=f (match o with|some j=>(j:Int)|none=>-1):=by cases o<;>rfl
def afR {l:List (Int×Int)} (hl:l.length≤1000000) (x:Int×Int):ĝ l x=some (Yq x l):=by
 unfold ĝ Ŷ iq υ
 have e:É (fun(v5:Int) kk7=>ě l (Ó l) x.1 x.2 v5 (fun u6=>kk7 u6) (fun z3=>some z3) (fun _=>some (-1:Int))) (0:Int)=some (match l.findIdx? (fun a=>decide (x=a)) with|some j=>(j:Int)|none=>-1):=by
  refine(iK l (fun a=>decide (x=a)) (fun z=>some z) (some (-1)) (fun i a hi ha kn=>?_) (fun kn=>?_)).trans (amA _ some)
  ·try dsimp only
   unfold ě
   have e:((Ě x.1 a.1)&&((Ě x.2 a.2)&&true))=decide (x=a):=by
    rw[dX]; simp[Ě,ip]
   rw[Ñ hi,Ç ha,Ê hi (by omega),ĥ,e]
  ·try dsimp only
   unfold ě;rw[Ü]
 rw[e,À];exact congrArg some (agw l x)
def abI {l:List M9} (hl:l.length≤1000000) (x:M9):Đ l x=some (Yq x l):=by
 unfold Đ ŝ Ε Γ
 have e:É (fun(v5:Int) kk7=>ď l (Ó l) x.1 x.2.1.1 x.2.1.2 x.2.2 v5 (fun u6=>kk7 u6) (fun z3=>some z3) (fun _=>some (-1:Int))) (0:Int)=some (match l.findIdx? (fun a=>decide (x=a)) with|some j=>(j:Int)|none=>-1):=by
  refine(iK l (fun a=>decide (x=a)) (fun z=>some z) (some (-1)) (fun i a hi ha kn=>?_) (fun kn=>?_)).trans (amA _ some)
  ·try dsimp only
   unfold ď
   have e:((Ě x.1 a.1)&&((Ě x.2.1.1 a.2.1.1)&&((Ě x.2.1.2 a.2.1.2)&&((Ě x.2.2 a.2.2)&&true))))=decide (x=a):=by
    rw[dX]; simp[Ě,ip,and_assoc]
   rw[Ñ hi,Ç ha,Ê hi (by omega),ĥ,e]
  ·try dsimp only
   unfold ď;rw[Ü]
 rw[e,À];exact congrArg some (agw l x)
def afS {l:List ì} (hl:l.length≤1000000) (x:ì):ġ l x=some (Yq x l):=by
 unfold ġ Ō Ų ű
 have e:É (fun(v5:Int) kk7=>Ć l (Ó l) x.1 x.2.1 x.2.2.1 x.2.2.2.1.1 x.2.2.2.1.2 x.2.2.2.2.1.1 x.2.2.2.2.1.2 x.2.2.2.2.2 v5 (fun u6=>kk7 u6) (fun z3=>some z3) (fun _=>some (-1:Int))) (0:Int)=some (match l.findIdx? (fun a=>decide (x=a)) with|some j=>(j:Int)|none=>-1):=by
  refine(iK l (fun a=>decide (x=a)) (fun z=>some z) (some (-1)) (fun i a hi ha kn=>?_) (fun kn=>?_)).trans (amA _ some)
  ·try dsimp only
   unfold Ć
   have e:((Ě x.1 a.1)&&((Ě x.2.1 a.2.1)&&((Ě x.2.2.1 a.2.2.1)&&((Ě x.2.2.2.1.1 a.2.2.2.1.1)&&((Ě x.2.2.2.1.2 a.2.2.2.1.2)&&((Ě x.2.2.2.2.1.1 a.2.2.2.2.1.1)&&((Ě x.2.2.2.2.1.2 a.2.2.2.2.1.2)&&((Ě x.2.2.2.2.2 a.2.2.2.2.2)&&true))))))))=decide (x=a):=by
    rw[dX]; simp[Ě,ip,and_assoc]
   rw[Ñ hi,Ç ha,Ê hi (by omega),ĥ,e]
  ·try dsimp only
   unfold Ć;rw[Ü]
 rw[e,À];exact congrArg some (agw l x)
def am6 (b:ß):List Int:=b.2.1.map fun g=>g.1
def mU {α:Type} [DecidableEq α] (x y:List α) (w:α→Bool):Bool:=x.all fun a=>!w a||Yq a y
def apt (s b:ß):Bool :=
 mU s.2.2.2.2.1 b.2.2.2.2.1 (fun _=>true)&&(decide (s.1=b.1)&&(mU s.2.1 b.2.1 (fun _=>true)&&(mU s.2.2.1 b.2.2.1 (fun u=>(am6 s).contains u.1)&&(mU b.2.2.1 s.2.2.1 (fun u=>(am6 s).contains u.1) &&
  (mU s.2.2.2.1 b.2.2.2.1 (fun u=>(am6 s).contains u.1)&&mU b.2.2.2.1 s.2.2.2.1 (fun u=>(am6 s).contains u.1))))))
section
variable {ρ:Type}
def L5 {α:Type} [DecidableEq α] (x y:List α) (w:α→Bool) (X Y KF:Option ρ) {f:Int→(Int→Option ρ)→Option ρ}
 (h:∀(i:Nat) (a:α),i<x.length→x[i]?=some a→∀kn,f i kn=if !(!w a||Yq a y) then(ifb (!(ige (i:Int) 0)) X KF) else kn ((i:Int)+1))
 (hn:∀kn,f x.length kn=Y):É f 0=if mU x y w then Y else KF:=by
 refine(Ĺ x (fun a=>!(!w a||Yq a y)) (fun z=>ifb (!(ige z 0)) X KF) KF Y (fun j=>by rw[show ige (j:Int) 0=true from decide_eq_true (by omega)]; rfl) h hn).trans ?_;unfold mU;rw[List.all_eq_not_any_not]
 cases x.any fun a=>!(!w a||Yq a y)<;>rfl
def arD:@wE ρ=@nt ρ:=rfl
def W7 {x y:List Int} (hl:x.length=y.length) (hx:x.length≤1000000) (k0:Bool→Option ρ) (K:Option ρ) :
 É (fun(v30:Int) kk32=>nt x y (Ó x) v30 (fun u31=>kk32 u31) k0 (fun _=>K)) (0:Int)=if x=y then K else k0 false:=by
 refine(j9 x (fun i a=>if y[i]?=some a then none else some false) k0 K (fun i a hi ha kn=>?_) (fun kn=>?_)).trans ?_
 ·try dsimp only
  unfold nt;have hm:y[i]?=some y[i]:=List.getElem?_eq_getElem (by omega);rw[Ñ hi,Ç ha,Ç hm,Ê hi (by omega),hm,ĥ]
  by_cases h:a=y[i]
  ·simp[ine,h]
  ·have h':¬y[i]=a:=fun e=>h e.symm;simp[ine,h,h']
 ·try dsimp only
  unfold nt;rw[Ü]
 ·cases h:Ħ (fun i a=>if y[i]?=some a then none else some false) 0 x with
  |none=>rw[if_pos (alW hl h)]
  |some b =>
   obtain⟨h1,h2⟩:=alV h;rw[if_neg h2,h1]
def alX {l:List Cmp} (hl:l.length≤1000) (c:Cmp) (hA:c.2.2.1.length≤1000) (hB:c.2.2.2.1.length≤1000) (k0:Int→Option ρ) (K1 KF:Option ρ) (hk:∀j:Nat,k0 (j:Int)=K1) :
 É (fun(v41:Int) kk43=>qY l (Ó l) c.1 c.2.1 c.2.2.1 c.2.2.2.1 c.2.2.2.2.1 c.2.2.2.2.2.1 c.2.2.2.2.2.2.1 c.2.2.2.2.2.2.2 v41 (fun u42=>kk43 u42) k0 (fun _=>KF)) (0:Int)=if Yq c l then K1 else KF:=by
 refine(Ĺ l (fun d=>decide (c=d)) k0 K1 KF hk (fun i d hi hd kn=>?_) (fun kn=>?_)).trans rfl
 ·try dsimp only
  unfold qY
  have hsplit:(c=d)↔(c.1=d.1∧c.2.1=d.2.1∧c.2.2.2.2.1=d.2.2.2.2.1∧c.2.2.2.2.2.1=d.2.2.2.2.2.1∧(c.2.2.2.2.2.2.1=d.2.2.2.2.2.2.1∧c.2.2.2.2.2.2.2=d.2.2.2.2.2.2.2)∧c.2.2.1=d.2.2.1∧c.2.2.2.1=d.2.2.2.1):=by
   simp only[ip];constructor
   ·rintro⟨a1,a2,a3,a4,a5,a6,a7,a8⟩; exact⟨a1,a2,a5,a6,⟨a7,a8⟩,a3,a4⟩
   ·rintro⟨a1,a2,a5,a6,⟨a7,a8⟩,a3,a4⟩; exact⟨a1,a2,a3,a4,a5,a6,a7,a8⟩
  have hno:∀{P:Prop},¬P→(c=d→P)→(if decide (c=d)=true then k0 (i:Int) else kn ((i:Int)+1))=kn ((i:Int)+1):=fun h1 h2=>by
   rw[if_neg];intro h;exact h1 (h2 (of_decide_eq_true h))
  rw[Ñ hi,Ç hd,Ê hi (by omega)]
  by_cases a1:c.1=d.1
  case neg=>rw[hno a1 (fun e=>(hsplit.1 e).1),Ð (beq_eq_false_iff_ne.2 a1)]
  rw[Õ (beq_iff_eq.2 a1)]
  by_cases a2:c.2.1=d.2.1
  case neg=>rw[hno a2 (fun e=>(hsplit.1 e).2.1),Ð (beq_eq_false_iff_ne.2 a2)]
  rw[Õ (beq_iff_eq.2 a2)]
  by_cases a3:c.2.2.2.2.1=d.2.2.2.2.1
  case neg=>rw[hno a3 (fun e=>(hsplit.1 e).2.2.1),Ð (beq_eq_false_iff_ne.2 a3)]
  rw[Õ (beq_iff_eq.2 a3)]
  by_cases a4:c.2.2.2.2.2.1=d.2.2.2.2.2.1
  case neg=>rw[hno a4 (fun e=>(hsplit.1 e).2.2.2.1),Ð (beq_eq_false_iff_ne.2 a4)]
  rw[Õ (beq_iff_eq.2 a4)]
  by_cases a5:c.2.2.2.2.2.2.1=d.2.2.2.2.2.2.1∧c.2.2.2.2.2.2.2=d.2.2.2.2.2.2.2
  case neg=>rw[hno a5 (fun e=>(hsplit.1 e).2.2.2.2.1),Ð (by simp only[Ě,gX,Bool.and_eq_false_iff,decide_eq_false_iff_not]; exact Decidable.not_and_iff_or_not.1 a5)]
  rw[Õ (by simp[Ě,a5.1,a5.2]),Û,Û,Û,Û]
  have rest:∀X Y:Option ρ,(c.2.2.1=d.2.2.1)→(if decide (c=d)=true then k0 (i:Int) else kn ((i:Int)+1))=(if c.2.2.2.1=d.2.2.2.1 then k0 (i:Int) else kn ((i:Int)+1)):=by
   intro _ _ h
   by_cases g:c.2.2.2.1=d.2.2.2.1
   ·rw[if_pos (decide_eq_true (hsplit.2 ⟨a1,a2,a3,a4,a5,h,g⟩)),if_pos g]
   ·rw[if_neg g]; exact hno g (fun e=>(hsplit.1 e).2.2.2.2.2.2)
  by_cases l1:c.2.2.1.length=d.2.2.1.length
  case neg =>
   rw[hno l1 (fun e=>by rw[e]),Õ (bne_iff_ne.2 (by omega))]
  rw[Ð (by rw[l1]; exact bne_self_eq_false' _)];have e3:=W7 (ρ:=ρ) l1 (by omega);rw[Û] at e3;rw[e3]
  by_cases g1:c.2.2.1=d.2.2.1
  case neg=>rw[if_neg g1,Ý,hno g1 (fun e=>(hsplit.1 e).2.2.2.2.2.1)]
  rw[if_pos g1,rest none none g1]
  by_cases l2:c.2.2.2.1.length=d.2.2.2.1.length
  case neg =>
   rw[Õ (bne_iff_ne.2 (by omega)),if_neg (fun e=>l2 (by rw[e]))]
  rw[Ð (by rw[l2]; exact bne_self_eq_false' _),arD];have e4:=W7 (ρ:=ρ) l2 (by omega);rw[Û] at e4;rw[e4,Ý]
 ·try dsimp only
  unfold qY;rw[Ü]
def arC:@nr ρ=@ld ρ:=rfl
def arB:@Ę ρ=@Ń ρ:=rfl
def asu {x y:List ì} (hx:x.length≤1000) (hy:y.length≤1000) (X Y KF:Option ρ):É (fun(v225:Int) kk227=>qX x (Ó x) y v225 (fun u226=>kk227 u226) (fun z=>ifb (!(ige z 0)) X KF) (fun _=>Y)) (0:Int)=if mU x y (fun _=>true) then Y else KF:=by
 refine L5 x y (fun _=>true) X Y KF (fun i a hi ha kn=>?_) (fun kn=>?_)
 ·try dsimp only
  unfold qX;rw[Ñ hi,Ç ha,afS (by omega),À,Ê hi (by omega),ĥ];simp
 ·try dsimp only
  unfold qX;rw[Ü]
def aoI {x y:List (Int×Int)} (hx:x.length≤1000) (hy:y.length≤1000) (ids:List Int) (X Y KF:Option ρ):É (fun(v225:Int) kk227=>ld x (Ó x) (TJ ids) y v225 (fun u226=>kk227 u226) (fun z=>ifb (!(ige z 0)) X KF) (fun _=>Y)) (0:Int)=if mU x y (fun u=>ids.contains u.1) then Y else KF:=by
 refine L5 x y (fun u=>ids.contains u.1) X Y KF (fun i a hi ha kn=>?_) (fun kn=>?_)
 ·try dsimp only
  unfold ld;rw[Ñ hi,Ç ha,A3,afR (by omega),À]
  by_cases h:ids.contains a.1=true
  ·rw[if_pos h,Ĕ,Ê hi (by omega),ĥ,h];simp
  ·rw[if_neg h,Ê hi (by omega)];have h':=Bool.not_eq_true _▸h;rw[h'];simp
 ·try dsimp only
  unfold ld;rw[Ü]
def aoH {x y:List M9} (hx:x.length≤1000) (hy:y.length≤1000) (ids:List Int) (X Y KF:Option ρ):É (fun(v225:Int) kk227=>Ń x (Ó x) (TJ ids) y v225 (fun u226=>kk227 u226) (fun z=>ifb (!(ige z 0)) X KF) (fun _=>Y)) (0:Int)=if mU x y (fun u=>ids.contains u.1) then Y else KF:=by
 refine L5 x y (fun u=>ids.contains u.1) X Y KF (fun i a hi ha kn=>?_) (fun kn=>?_)
 ·try dsimp only
  unfold Ń;rw[Ñ hi,Ç ha,A3,abI (by omega),À]
  by_cases h:ids.contains a.1=true
  ·rw[if_pos h,Ĕ,Ê hi (by omega),ĥ,h];simp
  ·rw[if_neg h,Ê hi (by omega)];have h':=Bool.not_eq_true _▸h;rw[h'];simp
 ·try dsimp only
  unfold Ń;rw[Ü]
def ast {x y:List M9} (hx:x.length≤1000) (hy:y.length≤1000) (ids:List Int) (k:Bool→Option ρ):É (fun(v225:Int) kk227=>Ń x (Ó x) (TJ ids) y v225 (fun u226=>kk227 u226) (fun z=>k (!(ige z 0))) (fun _=>k true)) (0:Int)=k (mU x y (fun u=>ids.contains u.1)):=by
 have h:=aoH (ρ:=ρ) hx hy ids (k true) (k true) (k false)
 have e:(fun z:Int=>ifb (!(ige z 0)) (k true) (k false))=fun z=>k (!(ige z 0)):=by
  funext z
  cases(!(ige z 0))<;>rfl
 rw[e] at h;rw[h]
 cases mU x y (fun u=>ids.contains u.1)<;>rfl
def asv {x y:List Cmp} (hx:x.length≤1000) (hp:∀c∈x,c.2.2.1.length≤1000∧c.2.2.2.1.length≤1000) (hy:y.length≤1000) (K:Option Bool):É (fun(v228:Int) kk230=>qZ x (Ó x) y v228 (fun u229=>kk230 u229) (fun z44=>some z44) (fun _=>K)) (0:Int)=if (x.all fun c=>Yq c y)=true then K else some false:=by
 refine(Ĺ x (fun c=>!Yq c y) (fun _=>some false) (some false) K (fun _=>rfl) (fun i c hi hc kn=>?_) (fun kn=>?_)).trans ?_
 rotate_left
 ·try dsimp only
  unfold qZ;rw[Ü]
 ·rw[List.all_eq_not_any_not]
  cases x.any fun c=>!Yq c y<;>rfl
 ·try dsimp only
  unfold qZ;have h:=hp c (List.mem_of_getElem? hc);rw[Ñ hi,Ç hc];refine(alX hy c h.1 h.2 _ (kn ((i:Int)+1)) (some false) (fun j=>by rw[show ige (j:Int) 0=true from decide_eq_true (by omega),Ê hi (by omega)]; rfl)).trans ?_
  cases Yq c y<;>rfl
end
def part_ok {s b:ß} (hs:Η s) (hb:Η b):Jf s b=some (apt s b):=by
 have g1:=hs.gauges; have g2:=hs.uses; have g3:=hs.loans; have g4:=hs.compares;have b1:=hb.gauges; have b2:=hb.uses; have b3:=hb.loans; have b4:=hb.compares;unfold Jf Zx apt;rw[arC,arB];refine(ë s.2.1 (fun i=>TJ (am6 (s.1,s.2.1.take i,s.2.2))) (some _) rfl (fun i g hi hg kn=>?_) (fun kn=>?_))
 ·try dsimp only
  unfold wF;rw[Ñ hi,Ç hg,Ê hi (by omega)];unfold am6;dsimp only;rw[take_succ hg,List.map_append,List.map_singleton,yS]
 ·try dsimp only
  unfold wF;rw[Ü,List.take_length]
  try dsimp only
  rw[show am6 (s.1,s.2.1,s.2.2)=am6 s from rfl];refine(asv g4 hs.piles b4 _).trans ?_;rw[show(mU s.2.2.2.2.1 b.2.2.2.2.1 fun _=>true)=s.2.2.2.2.1.all fun c=>Yq c b.2.2.2.2.1 from rfl]
  by_cases hc:(s.2.2.2.2.1.all fun c=>Yq c b.2.2.2.2.1)=true
  case neg=>rw[if_neg hc,fg.2 hc]; rfl
  rw[if_pos hc,hc,dW]
  by_cases hf:s.1=b.1
  case neg =>
   have ef:(Ě s.1.1 b.1.1&&(Ě s.1.2 b.1.2&&true))=false:=by
    rw[ip] at hf;simp[Ě];omega
   rw[ef,Ý,decide_eq_false hf];rfl
  have ef:(Ě s.1.1 b.1.1&&(Ě s.1.2 b.1.2&&true))=true:=by simp[Ě,hf]
  rw[ef,Ĕ,decide_eq_true hf,dW];refine(asu g1 b1 _ _ _).trans ?_;cases mU s.2.1 b.2.1 fun _=>true
  case false=>rfl
  rw[if_pos rfl,dW];refine(aoI g2 b2 _ _ _ _).trans ?_;cases mU s.2.2.1 b.2.2.1 fun u=>(am6 s).contains u.1
  case false=>rfl
  rw[if_pos rfl,dW];refine(aoI b2 g2 _ _ _ _).trans ?_;cases mU b.2.2.1 s.2.2.1 fun u=>(am6 s).contains u.1
  case false=>rfl
  rw[if_pos rfl,dW];refine(aoH g3 b3 _ _ _ _).trans ?_;cases mU s.2.2.2.1 b.2.2.2.1 fun u=>(am6 s).contains u.1
  case false=>rfl
  rw[if_pos rfl,dW];exact ast b3 g3 _ some
def yv (x:List Int) (y:List Int) (l:Lk):List Int:=if gv x l.2.1=Ł then y else y.set l.1.toNat (min (gv y l.1) (l.2.2+gv x l.2.1))
def afh (L:List Lk) (N:Nat) (x:List Int):List Int:=L.foldl (yv x) (List.replicate N Ł)
def exL (L:List Lk) (N:Nat) (to:Int):Nat→List Int
 |0=>(List.replicate N Ł).set to.toNat 0
 |k+1=>afh L N (exL L N to k)
def pl (L:List Lk) (N:Nat) (to:Int) (most:Nat):List (List Int):=(List.range (most+1)).map (exL L N to)
section
variable {L:List Lk} {N:Nat}
def Xt (x y:List Int) (l:Lk):(yv x y l).length=y.length:=by unfold yv; split<;>simp
def LL (x:List Int):∀(M:List Lk) (y:List Int),(M.foldl (yv x) y).length=y.length
 |[],y=>rfl
 |l::M,y=>by rw[f5,LL x M,Xt]
def akF (x:List Int):(afh L N x).length=N:=by unfold afh; rw[LL]; simp
def ahE (to:Int) (k:Nat):(exL L N to k).length=N:=by
 cases k with
 |zero=>simp[exL]
 |succ k=>exact akF _
def Lim (B:Int) (x:List Int):Prop:=∀v:Int,gv x v≠Ł→-B≤gv x v∧gv x v≤B
def gv_out {x:List Int} {v:Int} (h:¬v.toNat<x.length):gv x v=0:=by
 unfold gv;rw[List.getElem?_eq_none (by omega)];rfl
def amX {B:Int} (hB:0≤B):Lim B (List.replicate N Ł):=by
 intro v hv
 by_cases h:v.toNat<N
 ·exfalso; apply hv;unfold gv;rw[List.getElem?_replicate,if_pos h];rfl
 ·rw[gv_out (by simpa using h)]; omega
def amW {B:Int} {y:List Int} (hy:Lim B y) {u:Int} (hu:0≤u) (hl:u.toNat<y.length) {a:Int} (ha:a≠Ł→-B≤a∧a≤B):Lim B (y.set u.toNat a):=by
 intro v hv
 by_cases h:v.toNat=u.toNat
 ·have:gv (y.set u.toNat a) v=a:=by
   unfold gv;rw[h,List.getElem?_set_self hl];rfl
  rw[this] at hv ⊢;exact ha hv
 ·have:gv (y.set u.toNat a) v=gv y v:=by
   unfold gv;rw[List.getElem?_set_ne (fun e=>h e.symm)]
  rw[this] at hv ⊢;exact hy v hv
def apK (hS:Ŋ L N) {B:Int} (hB:0≤B) (hB2:B≤1000000000000000000) {x y:List Int} (hx:Lim B x) (hy:Lim (B+4503599627370496) y) (hl:y.length=N) {l:Lk} (hm:l∈L):Lim (B+4503599627370496) (yv x y l):=by
 unfold yv
 split
 ·exact hy
 ·rename_i hf;have h1:=hS.inr l hm;have h2:=hS.most l hm;have h3:=hx _ hf;refine amW hy h1.1.1 (by omega) fun ha=>?_
  by_cases h4:gv y l.1=Ł
  ·rw[h4] at ha ⊢
   have:min Ł (l.2.2+gv x l.2.1)=l.2.2+gv x l.2.1:=by unfold Ł; omega
   rw[this]; omega
  ·have:=hy _ h4;omega
def ai1 (hS:Ŋ L N) {B:Int} (hB:0≤B) (hB2:B≤1000000000000000000) {x:List Int} (hx:Lim B x):∀(M:List Lk),(∀l∈M,l∈L)→∀y:List Int,y.length=N→Lim (B+4503599627370496) y→Lim (B+4503599627370496) (M.foldl (yv x) y)
 |[],_,y,_,hy=>hy
 |l::M,hM,y,hl,hy=>by
  rw[f5];exact ai1 hS hB hB2 hx M (fun m hm=>hM m (by simp[hm])) _ (by rw[Xt,hl]) (apK hS hB hB2 hx hy hl (hM l (by simp)))
def ahs (hS:Ŋ L N) {to:Int} (ht:0≤to∧to<N):∀k:Nat,k≤200→Lim (k*4503599627370496) (exL L N to k)
 |0,_=>by
  unfold exL;exact amW (amX (by omega)) ht.1 (by simp; omega) (fun _=>by omega)
 |k+1,hk=>by
  have:=ai1 hS (B:=k*4503599627370496) (by omega) (by omega) (ahs hS ht k (by omega)) L (fun _ h=>h) (List.replicate N Ł) (by simp) (amX (by omega));unfold exL afh
  have e:(((k+1:Nat):Int)*4503599627370496)=(k:Int)*4503599627370496+4503599627370496:=by push_cast; omega
  rw[e];exact this
def afe {ρ:Type} (hN:N≤1000) (K:List Int→Option ρ) {f:Int×List Int→(Int×List Int→Option ρ)→Option ρ}
 (hf:∀(v:Int×List Int) kk,f v kk=BN (N:Int) v.1 v.2 (fun u34 u35=>kk (u34,u35)) K):É f ((0:Int),List.replicate N (0:Int))=K (List.replicate N Ł):=by
 refine ë (List.replicate N (0:Int)) (fun i=>List.replicate i Ł++List.replicate (N-i) (0:Int)) _ (by simp) (fun i a hi ha kn=>?_) (fun kn=>?_)
 ·rw[hf];dsimp only;unfold BN;rw[List.length_replicate] at hi
  have hlen:(List.replicate i Ł++List.replicate (N-i) (0:Int)).length=N:=by simp; omega
  have e1:ilt (i:Int) (N:Int)=true:=decide_eq_true (by omega);rw[Õ e1,show ô (List.replicate i Ł++List.replicate (N-i) (0:Int))=(N:Int) by unfold ô; rw[hlen],Ĵ (by omega) (by omega),kV (by rw[hlen]; omega),Ò (by omega) (by omega)];congr 2;rw[Int.toNat_natCast];rw[List.set_append_right _ _ (by simp),List.length_replicate,Nat.sub_self];rw[show N-i=(N-(i+1))+1 by omega,List.replicate_succ,List.set_cons_zero,List.replicate_succ'];simp
 ·rw[hf];dsimp only;unfold BN;rw[List.length_replicate];have e1:ilt (N:Int) (N:Int)=false:=decide_eq_false (by omega);rw[Ð e1];simp
def okN (hN:N≤1000) {ρ:Type} (x:Option ρ):Þ ((ile (0:Int) (N:Int))&&(â (Int.toNat (N:Int)))) x=x:=by
 rw[Ĥ];rw[dE,Ô (by omega),gX];exact decide_eq_true (by omega)
def amV {ρ:Type} (hS:Ŋ L N) {B:Int} (hB:0≤B) (hB2:B≤1000000000000000000) {x:List Int} (hx:Lim B x) (hxl:x.length=N) (K:List Int→Option ρ) :
 É (fun(v20:(Val (.pair tI (.slice tI)))) kk23=>H7 x L (Ó L) v20.1 v20.2 (fun u21 u22=>kk23 (u21,u22)) K) ((0:Int),List.replicate N Ł)=K (afh L N x):=by
 have hl3:=hS.len;refine ë L (fun i=>(L.take i).foldl (yv x) (List.replicate N Ł)) _ rfl (fun i l hi hl kn=>?_) (fun kn=>?_)
 ·try dsimp only
  unfold H7;have hm:=List.mem_of_getElem? hl;have h1:=hS.inr l hm;have h2:=hS.most l hm;rw[Ñ hi,Ç hl,A7 h1.2.1 (by omega),take_succ hl,List.foldl_append,Ê hi (by omega)]
  have hlen:((L.take i).foldl (yv x) (List.replicate N Ł)).length=N:=by rw[LL]; simp
  generalize (L.take i).foldl (yv x) (List.replicate N Ł)=y at hlen ⊢
  by_cases hf:gv x l.2.1=Ł
  ·rw[Ð (by rw[hf]; rfl)];simp only[List.foldl_cons,List.foldl_nil];unfold yv;rw[if_pos hf]
  ·have h3:=hx _ hf;rw[Õ (bne_iff_ne.2 hf),show ô y=(N:Int) by unfold ô; rw[hlen],Ĵ h1.1.1 h1.1.2,kV (by omega),A7 h1.2.1 (by omega),Ò (by omega) (by omega),Ĵ h1.1.1 h1.1.2,kV (by omega),Ê hi (by omega)];simp only[List.foldl_cons,List.foldl_nil];unfold yv;rw[if_neg hf,tX]
 ·try dsimp only
  unfold H7;rw[Ü,List.take_length];rfl
def ap2 {ρ:Type}:@ZX ρ=@BN ρ:=rfl
def lG (to:Int) (m:Nat):(pl L N to m).length=m+1:=by simp[pl]
def LK {to:Int} {m k:Nat} (hk:k≤m):(pl L N to m)[k]?=some (exL L N to k):=by
 unfold pl;rw[List.getElem?_map,List.getElem?_range (by omega)];rfl
def ap1 (hS:Ŋ L N) {to:Int} (ht:0≤to∧to<N) {most:Nat} (hm:most≤100):Bf ((N:Int),L) to (most:Int)=some (pl L N to most):=by
 have hN:=hS.n60
 unfold Bf Ri
 dsimp only;rw[okN (by omega),Int.toNat_natCast];refine(afe (by omega) _ (fun v kk=>by rw[Û,List.length_replicate])).trans ?_;rw[show ô (List.replicate N Ł)=(N:Int) by simp[ô],Ĵ ht.1 ht.2,kV (by simp; omega)];refine ë (List.replicate most ()) (fun i=>pl L N to i) _ (by simp[pl,exL]) (fun i a hi ha kn=>?_) (fun kn=>?_)
 ·try dsimp only
  unfold OU;rw[List.length_replicate] at hi;have e1:ilt (i:Int) (most:Int)=true:=decide_eq_true (by omega);rw[Õ e1,Û,lG]
  have e2:(((i+1:Nat):Int)-1)=(i:Int):=by omega
  rw[e2,Ò (by omega) (by omega),show ô (pl L N to i)=((i+1:Nat):Int) by unfold ô; rw[lG],Ĵ (by omega) (by omega),Int.toNat_natCast,pq (LK (Nat.le_refl i)),okN (by omega),Int.toNat_natCast];rw[ap2];refine(afe (by omega) _ (fun v kk=>by rw[Û,List.length_replicate])).trans ?_;refine(amV hS (B:=i*4503599627370496) (by omega) (by omega) (ahs hS ht i (by omega)) (ahE _ _) _).trans ?_;rw[Ĥ (Ô (by simp only[lG,List.length_singleton]; omega)),Ò (by omega) (by omega)];congr 2;unfold pl;rw[List.range_succ (n:=i+1),List.map_append];rfl
 ·try dsimp only
  unfold OU;rw[List.length_replicate];have e1:ilt (most:Int) (most:Int)=false:=decide_eq_false (by omega);rw[Ð e1]
def TN (L:List Lk) (x:List Int) (good:Int→Bool) (u sum:Int):Option Nat:=L.findIdx? fun l=>l.1==u&&(decide (gv x l.2.1≠Ł)&&good (sum+l.2.2+gv x l.2.1))
def tZ (L:List Lk) (rest:Nat→List Int) (good:Int→Bool):Nat→Int→Int→List Int→List Int
 |0,_,_,out=>out
 |k+1,u,sum,out=>match TN L (rest k) good u sum with
  |some i=>tZ L rest good k (L[i]?.getD (0,0,0)).2.1 (sum+(L[i]?.getD (0,0,0)).2.2) (out++[(i:Int)])
  |none=>tZ L rest good k u sum out
def folL {ρ:Type} (good:Int→Bool) (c0:Int) (c1:List (List Int)) (c2:List Lk) (c3:Int) (v0:Int) (v1:Int) (v2:Int) (v3:List Int) (kn:Int→Int→Int→List Int→Option ρ) (k0:Int×Int×List Int→Option ρ):Option ρ :=
 ifb (ilt v2 c3) (ê c2 v2 fun e7=>ifb (ieq e7.1 v0) (ck (c0-(1:Int)) fun n8=>ê c1 n8 fun e9=>ê e9 e7.2.1 fun e10=>ifb (ine e10 (1152921504606846976:Int)) (ck (v1+e7.2.2) fun n11=>ck (c0-(1:Int)) fun n12=>ê c1 n12 fun e13=>ê e13 e7.2.1 fun e14=>ck (n11+e14) fun n15=>ifb (good n15) (Þ (â ((List.length v3)+(List.length ([v2])))) (ck (v1+e7.2.2) fun n16=>k0 (e7.2.1,n16,(v3++([v2]))))) (ck (v2+(1:Int)) fun n17=>kn v0 v1 n17 v3)) (ck (v2+(1:Int)) fun n18=>kn v0 v1 n18 v3)) (ck (v2+(1:Int)) fun n19=>kn v0 v1 n19 v3)) (k0 (v0,v1,v3))
def arX {ρ:Type} (hS:Ŋ L N) (good:Int→Bool) {rest:List (List Int)} {k:Nat} {x:List Int} (hr:rest[k]?=some x) (hk:k≤100) (hx:Lim 1000000000000000000 x) (hxl:x.length=N) {u sum:Int} (hs : -1000000000000000000≤sum∧sum≤1000000000000000000) {out:List Int} (ho:out.length≤1000)
 (K:Int×Int×List Int→Option ρ):É (fun(v:Int×Int×Int×List Int) kk=>folL good ((k+1:Nat):Int) rest L (Ó L) v.1 v.2.1 v.2.2.1 v.2.2.2 (fun a b c d=>kk (a,b,c,d)) K) (u,sum,(0:Int),out) =
  match TN L x good u sum with|some i=>K ((L[i]?.getD (0,0,0)).2.1,sum+(L[i]?.getD (0,0,0)).2.2,out++[(i:Int)])|none=>K (u,sum,out):=by
 have hl3:=hS.len;refine Ĭ (fun v=>∃i:Nat,i≤L.length∧v=(u,sum,(i:Int),out)∧∀j l,j<i→L[j]?=some l→(l.1==u&&(decide (gv x l.2.1≠Ł)&&good (sum+l.2.2+gv x l.2.1)))=false) (fun v=>L.length-v.2.2.1.toNat) ?_ ⟨0,by omega,rfl,fun j l h=>by omega⟩;rintro v ⟨i,hi,rfl,hp⟩
 have e0:(((k+1:Nat):Int)-1)=(k:Int):=by omega
 rcases dG i L.length with h2|h2
 ·have hl:L[i]?=some L[i]:=df h2;generalize L[i]=l at hl;have hm:=dl hl;have h1:=hS.inr l hm;have h4:=hS.most l hm
  have hstep:(l.1==u&&(decide (gv x l.2.1≠Ł)&&good (sum+l.2.2+gv x l.2.1)))=false→∃y,(∃i:Nat,i≤L.length∧y=(u,sum,(i:Int),out)∧∀j l,j<i→L[j]?=some l→(l.1==u&&(decide (gv x l.2.1≠Ł)&&good (sum+l.2.2+gv x l.2.1)))=false)∧(L.length-y.2.2.1.toNat<L.length-((u,sum,(i:Int),out):Int×Int×Int×List Int).2.2.1.toNat)∧y=(u,sum,(i:Int)+1,out):=fun hf =>
   ⟨_,⟨i+1,h2,by rw[show((i+1:Nat):Int)=(i:Int)+1 by push_cast; rfl],fun j m hj hm=>by
    rcases Nat.lt_succ_iff_lt_or_eq.1 hj with h|rfl
    ·exact hp j m h hm
    ·rw[hl] at hm; cases hm; exact hf⟩,by simp; omega,rfl⟩
  by_cases hf:(l.1==u&&(decide (gv x l.2.1≠Ł)&&good (sum+l.2.2+gv x l.2.1)))=true
  ·refine .inl fun kn=>?_
   have hfi:TN L x good u sum=some i:=by
    unfold TN;rw[List.findIdx?_eq_some_iff_getElem];obtain⟨hh,rfl⟩:=List.getElem?_eq_some_iff.1 hl;exact⟨h2,hf,fun j hj=>by have:=hp j _ hj (List.getElem?_eq_getElem (by omega)); rw[this]; simp⟩
   rw[hfi];simp only[Bool.and_eq_true,beq_iff_eq,decide_eq_true_eq] at hf;have h5:=hx _ hf.2.1;dsimp only;unfold folL
   rw[Ñ h2,Ç hl,Õ (by simp[hf.1]),e0,Ò (by omega) (by omega),Ç hr,A7 h1.2.1 (by omega),Õ (bne_iff_ne.2 hf.2.1),Ò (by omega) (by omega),Ò (by omega) (by omega),Ç hr,A7 h1.2.1 (by omega),Ò (by omega) (by omega),Õ hf.2.2,
    Ĥ (Ô (by simp; omega)),Ò (by omega) (by omega),hl]
   rfl
  ·have hf':=Bool.not_eq_true _▸hf;obtain⟨y,hy1,hy2,rfl⟩:=hstep hf';refine .inr ⟨_,hy1,hy2,fun kn=>?_⟩;dsimp only;unfold folL;rw[Ñ h2,Ç hl,Ê h2 (by omega)]
   by_cases g1:l.1=u
   ·rw[Õ (by simp[g1]),e0,Ò (by omega) (by omega),Ç hr,A7 h1.2.1 (by omega)]
    by_cases g2:gv x l.2.1=Ł
    ·rw[Ð (by rw[g2]; rfl)]
    ·have h5:=hx _ g2
     have g3:good (sum+l.2.2+gv x l.2.1)=false:=by simpa[g1,g2] using hf'
     rw[Õ (bne_iff_ne.2 g2),Ò (by omega) (by omega),Ò (by omega) (by omega),Ç hr,A7 h1.2.1 (by omega),Ò (by omega) (by omega),Ð g3]
   ·rw[Ð (by simpa using g1)]
 ·refine .inl fun kn=>?_
  obtain rfl:i=L.length:=by omega
  have hfi:TN L x good u sum=none:=by
   unfold TN;rw[List.findIdx?_eq_none_iff];intro l hl;obtain⟨j,hj,rfl⟩:=List.mem_iff_getElem.1 hl;exact hp j _ hj (List.getElem?_eq_getElem hj)
  rw[hfi];dsimp only;unfold folL;rw[Ü]
def arW {ρ:Type} (good:Int→Bool) (c0:List (List Int)) (c6:List Lk) (v0:Int) (v1:Int) (v2:Int) (v3:List Int) (kn:Int→Int→Int→List Int→Option ρ) (k0:List Int→Option ρ):Option ρ :=
 ifb (igt v1 (0:Int)) (É (fun(v22:Int×Int×Int×List Int) kk27=>folL good v1 c0 c6 (Ó c6) v22.1 v22.2.1 v22.2.2.1 v22.2.2.2 (fun u23 u24 u25 u26=>kk27 (u23,u24,u25,u26)) (fun z20=>ck (v1-(1:Int)) fun n21=>kn z20.1 n21 z20.2.1 z20.2.2)) (v0,v2,(0:Int),v3)) (k0 v3)
def aqk {ρ:Type} (c0:List (List Int)) (c4:Int) (c6:List Lk):@sS ρ c0 c4 c6=arW (fun n=>ieq n c4) c0 c6:=rfl
def arV {ρ:Type} (hS:Ŋ L N) (good:Int→Bool) {rest:List (List Int)} {R:Nat→List Int} {k0:Nat} (hk:k0≤100) (hr:∀k,k<k0→rest[k]?=some (R k)) (hx:∀k,k<k0→Lim 900000000000000000 (R k)∧(R k).length=N) (u:Int) (K:List Int→Option ρ) :
 É (fun(v:Int×Int×Int×List Int) kk=>arW good rest L v.1 v.2.1 v.2.2.1 v.2.2.2 (fun a b c d=>kk (a,b,c,d)) K) (u,(k0:Int),(0:Int),[])=K (tZ L R good k0 u 0 []):=by
 have key:=vx (f:=fun(v:Int×Int×Int×List Int) kk=>arW good rest L v.1 v.2.1 v.2.2.1 v.2.2.2 (fun a b c d=>kk (a,b,c,d)) K) (F:=fun v=>K (tZ L R good v.2.1.toNat v.1 v.2.2.1 v.2.2.2))
  (fun v=>∃k:Nat,v.2.1=k∧k≤k0∧(-(((k0-k:Nat):Int)*4503599627370496)≤v.2.2.1∧v.2.2.1≤((k0-k:Nat):Int)*4503599627370496)∧v.2.2.2.length≤k0-k) (fun v=>v.2.1.toNat) (fun v hv kn hk=>?_) (x:=(u,(k0:Int),0,[])) ⟨k0,rfl,dg _,by simp,by simp⟩
 ·rw[key]; simp
 ·obtain⟨u,k',sum,out⟩:=v;obtain⟨k,e,h1,h2,h3⟩:=hv;dsimp only at e h2 h3 hk ⊢;subst e;rw[Int.toNat_natCast] at hk ⊢;unfold arW
  cases k with
  |zero =>
   rw[Ð (by rfl)];rfl
  |succ k =>
   rw[Õ (decide_eq_true (by omega))];have hh:=hx k (by omega)
   have hlim:Lim 1000000000000000000 (R k):=fun v hv=>by have:=hh.1 v hv; omega
   refine(arX hS good (hr k (by omega)) (by omega) hlim hh.2 (by omega) (by omega) _).trans ?_;unfold tZ
   have e0:(((k+1:Nat):Int)-1)=(k:Int):=by omega
   cases hn:TN L (R k) good u sum with
   |none =>
    dsimp only;rw[e0,Ò (by omega) (by omega),hk _ ⟨k,rfl,by omega,by dsimp only; omega,by dsimp only; omega⟩ (by simp)];simp
   |some i =>
    have hi:i<L.length:=by
     unfold TN at hn;exact(List.findIdx?_eq_some_iff_getElem.1 hn).1
    have hl:L[i]?=some L[i]:=List.getElem?_eq_getElem hi;have h4:=hS.most L[i] (List.getElem_mem _);dsimp only;rw[hl];simp only[Option.getD_some];rw[e0,Ò (by omega) (by omega),hk _ ⟨k,rfl,by omega,by dsimp only; omega,by simp; omega⟩ (by simp)];simp
def TF (L:List Lk) (N:Nat) (u v:Int):List Int×Int :=
 if (iP L N u v).2≠0 then([],(iP L N u v).2) else
 match (pl L N v N).findIdx? (fun x=>gv x u==(iP L N u v).1) with
 |some k=>(tZ L (exL L N v) (fun n=>ieq n (iP L N u v).1) k u 0 [],0)
 |none=>([],0)
def ajR (hS:Ŋ L N) {u v:Int} (hu:0≤u∧u<N) (hv:0≤v∧v<N):Bh ((N:Int),L) u v=some (TF L N u v):=by
 have hN:=hS.n60;unfold Bh Rx TF;rw[O9 hS hu hv,À]
 by_cases h:(iP L N u v).2=0
 ·rw[Ð (by rw[h]; rfl),if_neg (by simp[h]),ap1 hS hv (by omega),À];rw[aqk]
  let k0:Int→Option (List Int×Int):=fun j=>É (fun(v29:Int×Int×Int×List Int) kk34=>arW (fun n=>ieq n (iP L N u v).1) (pl L N v N) L v29.1 v29.2.1 v29.2.2.1 v29.2.2.2 (fun u30 u31 u32 u33=>kk34 (u30,u31,u32,u33)) (fun z28=>some ((z28,(0:Int)):List Int×Int))) (u,j,(0:Int),[])
  refine(iK (pl L N v N) (fun x=>gv x u==(iP L N u v).1) k0 (k0 (-1)) (fun i x hi hx kn=>?_) (fun kn=>?_)).trans ?_
  rotate_left
  ·try dsimp only
   unfold sT;rw[Ü]
  ·have hex:∀k,k<N+1→(pl L N v N)[k]?=some (exL L N v k):=fun k hk=>LK (by omega)
   have hlim:∀k,k<N+1→Lim 900000000000000000 (exL L N v k)∧(exL L N v k).length=N:=fun k hk=>⟨fun w hw=>by
    have:=ahs hS hv k (by omega) w hw; omega,ahE _ _⟩
   cases hf:(pl L N v N).findIdx? (fun x=>gv x u==(iP L N u v).1) with
   |none =>
    have:=vx (f:=fun(v29:Int×Int×Int×List Int) kk34=>arW (fun n=>ieq n (iP L N u v).1) (pl L N v N) L v29.1 v29.2.1 v29.2.2.1 v29.2.2.2 (fun u30 u31 u32 u33=>kk34 (u30,u31,u32,u33)) (fun z28=>some ((z28,(0:Int)):List Int×Int))) (F:=fun _=>some (([],0):List Int×Int)) (fun v=>v.2.1 = -1∧v.2.2.2=[]) (fun _=>0) (fun x hx kn hk=>by
     unfold arW;rw[hx.1,hx.2]
     rfl) (x:=(u,(-1:Int),(0:Int),[])) ⟨rfl,rfl⟩
    exact this
   |some k =>
    have hk:=(dV.1 hf).1;rw[lG] at hk;exact arV hS _ (R:=exL L N v) (by omega) (fun j hj=>hex j (by omega)) (fun j hj=>hlim j (by omega)) u (fun z=>some ((z,(0:Int)):List Int×Int))
  ·try dsimp only
   unfold sT
   have hxl:x.length=N:=by
    have hi':=hi;rw[lG] at hi';rw[LK (by omega)] at hx;cases hx;exact ahE _ _
   rw[lG] at hi;rw[Û,lG,Õ (decide_eq_true (by omega)),Ç hx,A7 hu.1 (by omega),Ò (by omega) (by omega),ĥ]
 ·rw[Õ (bne_iff_ne.2 h),if_pos h]
end
theorem XN {b:ß} (h:Ğ b):(Ť b).length=(æ b).length:=by
 have g0:∀i,((b.2.1.take i).mapIdx (ö b)).flatten.length=((b.2.1.take i).flatMap (ú b)).length:=by
  intro i
  induction i with
  |zero=>simp
  |succ i ih =>
   rcases dG i b.2.1.length with hi|hi
   ·have hg:b.2.1[i]?=some b.2.1[i]:=List.getElem?_eq_getElem hi;rw[i6 _ hg,take_succ hg,List.flatMap_append,List.flatten_append,List.length_append,List.length_append,ih];congr 1;unfold ö ú;simp only[List.flatMap_cons,List.flatMap_nil,List.append_nil,List.flatten_cons,List.flatten_nil,List.length_append];rw[Ž _ _ (fun _=>rfl),Ž _ _ (fun _=>rfl)];rfl
   ·rw[eA (by omega)] at ih ⊢;exact ih
 have c0:=XA (b:=b) b.2.2.2.2.1.length (Nat.le_refl _);have g1:=g0 b.2.1.length;rw[List.take_length] at c0 g1;unfold Ť æ;rw[List.length_append,List.length_append,g1,c0.1,c0.2]
theorem ae2 {b:ß}:∀s∈(b.2.1.mapIdx (ö b)).flatten,(s.1=1∨s.1=2)∧0≤s.2∧s.2<b.2.1.length:=by
 intro s hs;obtain⟨l,hl,hm⟩:=List.mem_flatten.1 hs;obtain⟨i,hi,rfl⟩:=List.mem_iff_getElem.1 hl;rw[List.length_mapIdx] at hi;rw[List.getElem_mapIdx] at hm;unfold ö at hm;rcases List.mem_append.1 hm with h|h
 ·simp at h; subst h; exact⟨.inl rfl,by dsimp only; omega,by dsimp only; omega⟩
 ·obtain⟨_,_,h⟩:=List.mem_flatMap.1 h;simp at h; subst h; exact⟨.inr rfl,by dsimp only; omega,by dsimp only; omega⟩
theorem afo {l:List Cmp}:∀s∈(l.mapIdx fun i (_:Cmp)=>[((3:Int),(i:Int)),((3:Int),(i:Int))]).flatten,s.1=3∧0≤s.2∧s.2<l.length:=by
 intro s hs;obtain⟨m,hl,hm⟩:=List.mem_flatten.1 hs;obtain⟨i,hi,rfl⟩:=List.mem_iff_getElem.1 hl;rw[List.length_mapIdx] at hi;rw[List.getElem_mapIdx] at hm;simp at hm; subst hm;exact⟨rfl,by dsimp only; omega,by dsimp only; omega⟩
theorem apD (b:ß) (c:Cmp):∃S:List (Int×Int),Ť (î b c)=S++[(3,(b.2.2.2.2.1.length:Int)),(3,(b.2.2.2.2.1.length:Int))]∧∀s∈S,¬(s.1=3∧s.2=(b.2.2.2.2.1.length:Int)):=by
 refine⟨((î b c).2.1.mapIdx (ö (î b c))).flatten++(b.2.2.2.2.1.mapIdx fun i (_:Cmp)=>[((3:Int),(i:Int)),((3:Int),(i:Int))]).flatten,?_,fun s hs=>?_⟩
 ·unfold Ť;rw[show(î b c).2.2.2.2.1=b.2.2.2.2.1++[c] from rfl,List.mapIdx_append,List.flatten_append,List.append_assoc];simp
 ·rcases dk.1 hs with h|h
  ·have:=ae2 s h; omega
  ·have:=afo s h; omega
theorem W8 (b:ß) (c:Cmp) (h:Ğ (î b c)):æ (î b c)=û (î b c)++[(cy (î b c) c,cx (î b c) c,(ζ (î b c) c).2),(cx (î b c) c,cy (î b c) c,-(ζ (î b c) c).1)]:=by
 rw[ahx];unfold æ;rw[show(î b c).2.2.2.2.1=b.2.2.2.2.1++[c] from rfl,List.flatMap_append,List.append_assoc];simp[ĉ]
def aq3 (b:ß) (c:Cmp) (s t:Int):Int:=dst (û (î b c)) ((Í (î b c)).length+1) s t
abbrev End:Type:=Int×Int×Int
abbrev L6:Type:=(Int×Int)×End×End
def endP (b:ß) (c:Cmp) (s t:Int):End :=
 (aq3 b c s t,aq3 b c s (cy (î b c) c)+(ζ b c).2+aq3 b c (cx (î b c) c) t,aq3 b c s (cx (î b c) c)-(ζ b c).1+aq3 b c (cy (î b c) c) t)
def worth0:L6:=((0,0),(0,0,0),(0,0,0))
def abM (b:ß) (n:Int×Int) (c:Cmp):L6 :=
 ((ľ b c).1,endP b (È c) 0 (yr (î b (È c)) n.1 n.2),endP b (È c) (yr (î b (È c)) n.1 n.2) 0)
def aaU (b:ß) (n:Int×Int) (c:Cmp):L6×Int:=if (ľ b c).2≠0 then(worth0,(ľ b c).2) else(abM b n c,0)
theorem Mi {b:ß} {c:Cmp} (h:(ľ b c).2=0):ĸ (æ b) ((Í b).length+1)=true:=by
 obtain⟨g1,g2⟩:=pW h;rw[TC g1 g2] at h
 by_cases ho:ĸ (æ b) ((Í b).length+1)=true
 ·exact ho
 ·rw[if_neg ho] at h; cases h
section
variable {b:ß} {c:Cmp} (h:Ğ b) (h':Ğ (î b c)) (ho:ĸ (æ b) ((Í b).length+1)=true)
include h h' ho
theorem tY {s t:Int} (hs:0≤s∧s<((Í (î b c)).length+1:Nat)) (ht:0≤t∧t<((Í (î b c)).length+1:Nat)) : -9007199254740992≤aq3 b c s t∧aq3 b c s t≤9007199254740992 :=
 ajk (kd h') (kE h') (by rw[rk h h']; exact ho) hs ht
theorem vB (B:ß) {s t:Int} (hs:0≤s∧s<((Í (î b c)).length+1:Nat)) (ht:0≤t∧t<((Í (î b c)).length+1:Nat)):Ë (B,(((Í (î b c)).length:Int)+1,û (î b c))) t s=some (aq3 b c s t):=by
 rw[show(((Í (î b c)).length:Int)+1)=(((Í (î b c)).length+1:Nat):Int) by push_cast; rfl,afG (kd h') ht hs,Cs (kd h') (kE h') hs ht,if_pos (by rw[rk h h']; exact ho)];rfl
theorem alU:(-4503599627370496≤(ζ b c).1∧(ζ b c).1≤4503599627370496)∧(-4503599627370496≤(ζ b c).2∧(ζ b c).2≤4503599627370496):=by
 have hs:=h'.sys;have e:=W8 b c h';have m1:=hs.most (cy (î b c) c,cx (î b c) c,(ζ (î b c) c).2) (by rw[e]; simp);have m2:=hs.most (cx (î b c) c,cy (î b c) c,-(ζ (î b c) c).1) (by rw[e]; simp);have e2:ζ (î b c) c=ζ b c:=rfl;rw[e2] at m1 m2;dsimp only at m1 m2;omega
theorem ajh (B:ß) {s t:Int} (hs:0≤s∧s<((Í (î b c)).length+1:Nat)) (ht:0≤t∧t<((Í (î b c)).length+1:Nat)) :
 oA t s (B,(((Í (î b c)).length:Int)+1,û (î b c))) (cy (î b c) c) (ζ b c) (cx (î b c) c)=some (endP b c s t):=by
 have hx:=D0 h';have hy:=DZ h';have b1:=tY h h' ho hs ht;have b2:=tY h h' ho hs hy;have b3:=tY h h' ho hx ht;have b4:=tY h h' ho hs hx;have b5:=tY h h' ho hy ht;have b6:=alU h h' ho;unfold oA Ah;rw[vB h h' ho B hs ht,À,vB h h' ho B hs hy,À,Ò (by omega) (by omega),vB h h' ho B hx ht,À,Ò (by omega) (by omega),vB h h' ho B hs hx,À,Ò (by omega) (by omega),vB h h' ho B hy ht,À,Ò (by omega) (by omega)];rfl
end
theorem aci {B:ß} (h:Ğ B) (hn:∀g∈B.2.1,I64 g.2.2.2.2.1.1) (s:Sys) (l:List Int) (c:Cmp):oB l (B,s) c=some (atP (Í B) l c.2.1):=by
 unfold oB Ai
 cases l with
 |nil=>rw[Û]; rfl
 |cons x t =>
  rw[Û,Ð (beq_eq_false_iff_ne.2 (by simp; omega)),show(0:Int)=((0:Nat):Int) from rfl,Ç (show(x::t)[0]?=some x from rfl),M8 h hn,À];rfl
theorem anf {ρ:Type} {b:ß} {c:Cmp} (h:Ğ (î b c)) (K:List Lk→Option ρ) :
 É (fun(v17:Val Î) kk20=>mc (b.2.2.2.2.1.length:Int) (Ť (î b c)) (æ (î b c)) (Ó (æ (î b c))) v17.1 v17.2 (fun u18 u19=>kk20 (u18,u19)) K) ((0:Int),[])=K (û (î b c)):=by
 have hl3:=h.sys.len;have hsl:=XN h;obtain⟨S,hS,hSk⟩:=apD b c;have hL:=W8 b c h
 have hSl:S.length=(û (î b c)).length:=by
  rw[hS,hL,di,di] at hsl;simpa using hsl
 generalize û (î b c)=H at hL hSl ⊢;rw[hS];generalize æ (î b c)=L at hL hsl hl3 ⊢
 have hLl:L.length=H.length+2:=by rw[hL]; simp
 refine ë L (fun i=>(L.take i).take H.length) _ (by simp) (fun i l hi hl kn=>?_) (fun kn=>?_)
 ·try dsimp only
  unfold mc;rw[Ñ hi,Ç hl];rcases Nat.lt_or_ge i H.length with h1|h1
  ·have hs:(S++[((3:Int),(b.2.2.2.2.1.length:Int)),(3,(b.2.2.2.2.1.length:Int))])[i]?=some S[i]:=by
    rw[gO (by omega),df]
   have hk:=hSk S[i] (eh _)
   have e:((Ě (S[i]).1 (3:Int))&&((Ě (S[i]).2 (b.2.2.2.2.1.length:Int))&&true))=false:=by
    simp[Ě]; omega
   have e1:(L.take i).take H.length=L.take i:=eA (by rw[dv]; omega);have e2:(L.take (i+1)).take H.length=L.take (i+1):=eA (by rw[dv]; omega);rw[Ç hs,e,Õ (by rfl),e1,e2,Ĥ (Ô (by rw[dv]; simp; omega)),Ê hi (by omega),take_succ hl]
  ·have hs:(S++[((3:Int),(b.2.2.2.2.1.length:Int)),(3,(b.2.2.2.2.1.length:Int))])[i]?=some ((3:Int),(b.2.2.2.2.1.length:Int)):=by
    rw[gJ (by omega)]
    have:i-S.length=0∨i-S.length=1:=by omega
    rcases this with e|e<;>rw[e]<;>rfl
   have e:((Ě (3:Int) (3:Int))&&((Ě (b.2.2.2.2.1.length:Int) (b.2.2.2.2.1.length:Int))&&true))=true:=by simp[Ě]
   have e1:(L.take i).take H.length=(L.take (i+1)).take H.length:=by
    rw[List.take_take,List.take_take];congr 1;omega
   rw[Ç hs];dsimp only;rw[e,Ð (by rfl),Ê hi (by omega),e1]
 ·try dsimp only
  unfold mc;rw[Ü,List.take_length,hL];simp
theorem aeU {B:ß} (hr:afZ B) (n:Int×Int) {c:Cmp} (hA:c.2.2.1.length≤1000) (hB:c.2.2.2.1.length≤1000):vL (B,Ng B) n c=some (aaU B n c):=by
 unfold vL KE aaU;have hs:=hr.good.size;rw[show(B,Ng B).1=B from rfl,ali hs hr.num hA hB,À]
 by_cases hp:(ľ B c).2=0
 ·obtain⟨g1,g2⟩:=pW hp;have ho:=Mi hp
  have e1:Bv B (È c)=(î B (È c),0):=by
   unfold Bv;rw[if_neg (by simp[(ð B).2 g1]),if_neg (by simp[(ð _).2 g2])]
  have hn2:∀g∈(î B (È c)).2.1,I64 g.2.2.2.2.1.1:=hr.num;have hC:=g2.nC
  have hw:(((î B (È c)).2.2.2.2.1.length:Int)-1)=(B.2.2.2.2.1.length:Int):=by simp[î]
  have hSays:aqE (î B (È c)) (B.2.2.2.2.1.length:Int)=(ζ B (È c),0):=by
   have e:uj (î B (È c)) (B.2.2.2.2.1.length:Int)=(È c,0):=by
    unfold uj;rw[if_neg (by simp[(ð _).2 g2]),if_neg (by simp[î]; omega)];simp[î]
   unfold aqE;rw[e,if_neg (by simp)];rfl
  have hCancel:TG c.2.2.1 c.2.2.2.1=(é c.2.2.1 c.2.2.2.1,é c.2.2.2.1 c.2.2.1,0):=by
   have hnu:=(η _).1 (g2.nums (BH (c:=È c)));have h6:Ů c.2.2.1=true∧Ů c.2.2.2.1=true:=⟨hnu.2.2.2.2.2.1,hnu.2.2.2.2.2.2⟩;unfold TG;rw[h6.1,h6.2];rfl
  rw[Ð (by rw[hp]; rfl),if_neg (by simp[hp]),show pQ B (c.1,c.2.1,c.2.2.1,c.2.2.2.1,(0:Int),c.2.2.2.2.2)=pQ B (È c) from rfl,aop hs hr.num (c:=È c) hA hB,À,e1];dsimp only;rw[Ð (by rfl),Û,hw,Ò (by omega) (by omega),asp (g2.inn hn2),À,hSays,afT (by omega) (by omega),À,hCancel,rK (g2.inn hn2),À,jX g2];dsimp only;refine(anf g2 _).trans ?_;have ex:cx (î B (È c)) (È c)=atP (Í (î B (È c))) (é c.2.2.1 c.2.2.2.1) c.2.1:=rfl;have ey:cy (î B (È c)) (È c)=atP (Í (î B (È c))) (é c.2.2.2.1 c.2.2.1) c.2.1:=rfl;rw[aci g2 hn2,À,aci g2 hn2,À,M8 g2 hn2,À,←ex,←ey,ajh g1 g2 ho _ (ħ _) (ş _ n),À,ajh g1 g2 ho _ (ş _ n) (ħ _),À];rfl
 ·rw[Õ (bne_iff_ne.2 hp),if_pos hp];rfl
abbrev aqO:Type:=ß×(Int×Int)×Bool×Int×List Int
def anK:aqO:=(mK,(0,0),false,0,[])
def D6 (L:List Lk):Int→Int→List Int→Int×Int×Bool
 |u,s,[]=>(u,s,true)
 |u,s,i::t=>if (L[i.toNat]?.getD (0,0,0)).1=u then D6 L (L[i.toNat]?.getD (0,0,0)).2.1 (s+(L[i.toNat]?.getD (0,0,0)).2.2) t else(0,0,false)
def afI (L:List Lk) (i:Int):Bool:=decide (i<0)||decide ((L.length:Int)≤i)
def mh (L:List Lk) (l:List Int):Int:=if 80<l.length then 2 else if l.any (afI L) then 1 else 0
def Θ (L:List Lk) (u v:Int) (l:List Int):Int×Int :=
 if mh L l≠0 then(0,mh L l) else if (D6 L u 0 l).2.2=true∧(D6 L u 0 l).1=v then((D6 L u 0 l).2.1,0) else(0,8)
def arc (u:Int) (w:Int×Int×Bool):Int:=if w.2.2=true∧w.1=u∧w.2.1<0 then 0 else 8
def xN (L:List Lk) (l:List Int):Int :=
 if mh L l≠0 then mh L l else match l with
 |[]=>8
 |i::_=>arc (L[i.toNat]?.getD (0,0,0)).1 (D6 L (L[i.toNat]?.getD (0,0,0)).1 0 l)
section
variable {L:List Lk} {N:Nat}
def Xg (N:Int) (hL:L.length≤1000) (l:List Int):rC (N,L) l=some (mh L l):=by
 unfold rC FA mh;dsimp only;rw[Û]
 by_cases h:80<l.length
 ·rw[Õ (decide_eq_true (by omega)),if_pos h]
 ·rw[Ð (decide_eq_false (by omega)),if_neg h,←Û l];refine(Ĺ l (afI L) (fun z=>ifb (ige z 0) (some 1) (some 0)) (some 1) (some 0) (fun j=>by rw[show ige (j:Int) 0=true from decide_eq_true (by omega)]; rfl) (fun i a hi ha kn=>?_) (fun kn=>?_)).trans ?_
  ·try dsimp only
   unfold nO afI;rw[Ñ hi,Ç ha,Ê hi (by omega),Û,ĥ,ĥ]
   by_cases h1:a<0
   ·simp[ilt,h1]
   ·by_cases h2:(L.length:Int)≤a
    ·simp[ilt,ige,h1,h2]
    ·simp[ilt,ige,h1,h2]
  ·try dsimp only
   unfold nO;rw[Ü]
  ·cases l.any (afI L)<;>rfl
def ahw {l:List Int} (h:mh L l=0):l.length≤80∧∀i∈l,0≤i∧i.toNat<L.length:=by
 unfold mh at h
 split at h
 ·omega
 ·rename_i h1
  split at h
  ·omega
  ·rename_i h2;refine⟨by omega,fun i hi=>?_⟩;have:=fo.1 (fg.2 h2) i hi;simp[afI] at this;omega
def alz (hS:Ŋ L N) (u:Int) {l:List Int} (h:mh L l=0):Jj ((N:Int),L) u l=some (D6 L u 0 l):=by
 obtain⟨hl,hi⟩:=ahw h;unfold Jj ZV;dsimp only
 have:=vx (f:=fun(v7:Int×Int×Int) kk11=>wP l (Ó l) L v7.1 v7.2.1 v7.2.2 (fun u8 u9 u10=>kk11 (u8,u9,u10)) (fun z5=>some (z5.1,z5.2.1,z5.2.2)) (fun z6=>some (z6.1,z6.2,true)))
  (F:=fun v=>some (D6 L v.1 v.2.1 (l.drop v.2.2.toNat))) (fun v=>∃i:Nat,v.2.2=i∧i≤l.length∧(-(i*4503599627370496)≤v.2.1∧v.2.1≤i*4503599627370496)) (fun v=>l.length-v.2.2.toNat) (fun v hv kn hk=>?_) (x:=(u,(0:Int),(0:Int))) ⟨0,rfl,by omega,by simp⟩
 ·exact this
 ·obtain⟨w,s,n⟩:=v;obtain⟨i,e,h1,h2⟩:=hv;dsimp only at e h2 hk ⊢;subst e;rw[Int.toNat_natCast] at hk ⊢;unfold wP;rcases Nat.lt_or_ge i l.length with h3|h3
  ·have ha:l[i]?=some l[i]:=List.getElem?_eq_getElem h3;have hd:l.drop i=l[i]::l.drop (i+1):=List.drop_eq_getElem_cons h3;rw[hd];have hx:=hi l[i] (List.getElem_mem _);generalize l[i]=a at ha hx;have hg:L[a.toNat]?=some L[a.toNat]:=List.getElem?_eq_getElem hx.2;have hm:=hS.most _ (List.mem_of_getElem? hg);generalize L[a.toNat]=x at hg hm;rw[Ñ h3,Ç ha,ka hx.1 hg];unfold D6;rw[hg];simp only[Option.getD_some]
   by_cases hc:x.1=w
   ·rw[Ð (by rw[hc]; exact bne_self_eq_false' _),if_pos hc,Ò (by omega) (by omega),Ê h3 (by omega),hk _ ⟨i+1,by push_cast; rfl,h3,by dsimp only; push_cast; omega⟩ (by simp; omega)];simp
   ·rw[Õ (bne_iff_ne.2 hc),if_neg hc]
  ·obtain rfl:i=l.length:=by omega
   rw[Ü,g8];rfl
def alA (hS:Ŋ L N):∀(l:List Int) (u s B:Int),-B≤s∧s≤B→-(B+l.length*4503599627370496)≤(D6 L u s l).2.1∧(D6 L u s l).2.1≤B+l.length*4503599627370496
 |[],u,s,B,h=>by simp[D6]; omega
 |i::t,u,s,B,h=>by
  unfold D6
  have hm : -4503599627370496≤(L[i.toNat]?.getD (0,0,0)).2.2∧(L[i.toNat]?.getD (0,0,0)).2.2≤4503599627370496:=by
   cases hg:L[i.toNat]? with
   |none=>simp
   |some x=>exact hS.most x (dl hg)
  split
  ·have:=alA hS t (L[i.toNat]?.getD (0,0,0)).2.1 (s+(L[i.toNat]?.getD (0,0,0)).2.2) (B+4503599627370496) (by omega);rw[dn];push_cast;omega
  ·dsimp only;omega
def JN (hS:Ŋ L N) {u v:Int} (hu:0≤u∧u<N) (hv:0≤v∧v<N) (l:List Int):kH ((N:Int),L) u v l=some (Θ L u v l):=by
 have hl3:=hS.len;unfold kH tR Θ
 have e1:(decide (0≤u)&&decide (u<(N:Int)))=true:=by simp[hu.1,hu.2]
 have e2:(decide (0≤v)&&decide (v<(N:Int)))=true:=by simp[hv.1,hv.2]
 rw[mC hS,À,Ð (by rfl),PK,À,e1,Ð (by rfl),PK,À,e2,Ð (by rfl),Xg _ (by omega),À]
 by_cases h:mh L l=0
 ·rw[Ð (by rw[h]; rfl),if_neg (by simp[h]),alz hS u h,À]
  cases h1:(D6 L u 0 l).2.2 with
  |false=>rw[Õ (by rfl),if_neg (by simp)]
  |true =>
   rw[Ð (by rfl)]
   by_cases h2:(D6 L u 0 l).1=v
   ·rw[Ð (by rw[h2]; exact bne_self_eq_false' _),if_pos ⟨rfl,h2⟩]
   ·rw[Õ (bne_iff_ne.2 h2),if_neg (fun h=>h2 h.2)]
 ·rw[Õ (bne_iff_ne.2 h),if_pos h]
def aeZ {ρ α:Type} (x:α) (t:List α) (f:α→Option ρ):ê (x::t) (0:Int) f=f x:=rfl
def VV (hS:Ŋ L N) (l:List Int):nS ((N:Int),L) l=some (xN L l):=by
 have hl3:=hS.len;unfold nS tQ xN;rw[mC hS,À,Ð (by rfl),Xg _ (by omega),À]
 by_cases h:mh L l=0
 ·rw[Ð (by rw[h]; rfl),if_neg (by simp[h])]
  cases l with
  |nil=>rw[Û]; rfl
  |cons i t =>
   have hx:=(ahw h).2 i (by simp);have hg:L[i.toNat]?=some L[i.toNat]:=List.getElem?_eq_getElem hx.2;generalize L[i.toNat]=x at hg;rw[Û,Ð (beq_eq_false_iff_ne.2 (by simp; omega)),aeZ,ka hx.1 hg,alz hS x.1 h,À];dsimp only;rw[hg];dsimp only[Option.getD_some];generalize D6 L x.1 0 (i::t)=w;obtain⟨e,sum,ok⟩:=w;unfold arc;dsimp only
   cases ok with
   |false=>rw[Õ (by rfl),if_neg (by simp)]
   |true =>
    rw[Ð (by rfl)]
    by_cases h2:e=x.1
    ·rw[Ð (by rw[h2]; exact bne_self_eq_false' _)]
     by_cases h3:sum<0
     ·rw[Ð (decide_eq_false (by omega)),if_pos ⟨rfl,h2,h3⟩]
     ·rw[Õ (decide_eq_true (by omega)),if_neg (fun h=>h3 h.2.2)]
    ·rw[Õ (bne_iff_ne.2 h2),if_neg (fun h=>h2 h.2.1)]
 ·rw[Õ (bne_iff_ne.2 h),if_pos h]
end
def qo (c:aqO):Int :=
 if ä c.1≠0 then ä c.1 else if yr c.1 c.2.1.1 c.2.1.2=0 then 5 else
 if c.2.2.1 then(if Θ (æ c.1) 0 (yr c.1 c.2.1.1 c.2.1.2) c.2.2.2.2=(c.2.2.2.1,0) then 0 else 8)
 else(if Θ (æ c.1) (yr c.1 c.2.1.1 c.2.1.2) 0 c.2.2.2.2=(-c.2.2.2.1,0) then 0 else 8)
def rN (c:aqO):Int :=
 if ä c.1≠0 then ä c.1 else if c.2.1≠(0,0)∨c.2.2.1=true∨c.2.2.2.1≠0 then 1 else if xN (æ c.1) c.2.2.2.2=0 then 0 else 8
def ah8 (b:ß) (c:aqO):Bool×Int :=
 if ä b≠0 then(false,ä b) else
 if c.2.1=(0,0) then(if rN c≠0 then(false,rN c) else(apt c.1 b,0)) else(if qo c≠0 then(false,qo c) else(apt c.1 b,0))
def wr_neg {n:Int} (h:I64 n):arl (0-n)=if n = -9223372036854775808 then n else -n:=by
 have e:arl (0-n)=if (0-n) % 18446744073709551616≥9223372036854775808 then(0-n) % 18446744073709551616-18446744073709551616 else(0-n) % 18446744073709551616:=by
  simp[arl,IntKind.wrap,IntKind.bits,IntKind.signed]
 rw[e];unfold I64 at h
 split<;>split<;>omega
def Na {c:aqO} (hI:In c.1) (hv:I64 c.2.2.2.1):mo c=some (qo c):=by
 unfold mo wM qo;rw[iF hI.size hI.num,À]
 by_cases hc:ä c.1=0
 ·have hg:=(ð c.1).1 hc;rw[Ð (by simp[ine,hc]),if_neg (show ¬(ä c.1≠0) from fun h=>h hc),TE hI,À,F1 hg,rK hI,À,jX hg];dsimp only
  by_cases h0:yr c.1 c.2.1.1 c.2.1.2=0
  ·rw[if_pos h0,if_pos h0]; rfl
  ·have hN:=hg.sys;have hr:=ş c.1 c.2.1;have hz:=ħ c.1;rw[if_neg h0,if_neg h0,Ð (by rfl),show(((Í c.1).length:Int)+1)=(((Í c.1).length+1:Nat):Int) by push_cast; rfl];dsimp only;rw[show(∀f:Int→Option Int,ck (0-c.2.2.2.1) f=f (arl (0-c.2.2.2.1))) from fun f=>rfl,wr_neg hv]
   have key:∀(u v:Int) (t t':Int),(t'=t∨(t' = -9223372036854775808∧t=9223372036854775808))→(ifb (ine (Θ (æ c.1) u v c.2.2.2.2).2 0) (some (8:Int)) (ifb (ine (Θ (æ c.1) u v c.2.2.2.2).1 t') (some 8) (some 0)))=some (if Θ (æ c.1) u v c.2.2.2.2=(t,0) then 0 else 8):=by
    intro u v t t' ht
    have hb : -9000000000000000000≤(Θ (æ c.1) u v c.2.2.2.2).1∧(Θ (æ c.1) u v c.2.2.2.2).1≤9000000000000000000:=by
     unfold Θ
     split
     ·simp
     ·rename_i hi
      split
      ·have:=alA hN c.2.2.2.2 u 0 0 (by simp);have:=(ahw (by simpa using hi)).1;dsimp only;omega
      ·simp
    generalize Θ (æ c.1) u v c.2.2.2.2=p at hb ⊢
    by_cases h2:p.2=0
    ·rw[Ð (by rw[h2]; rfl)]
     by_cases h1:p.1=t'
     ·have:p=(t,0):=Prod.ext (by rcases ht with h|h<;>omega) h2
      rw[Ð (by rw[h1]; exact bne_self_eq_false' _),if_pos this]
     ·have:¬p=(t,0):=fun e=>by
       have e1:p.1=t:=by rw[e]
       rcases ht with h|h<;>omega
      rw[Õ (bne_iff_ne.2 h1),if_neg this]
    ·have:¬p=(t,0):=fun e=>h2 (by rw[e]);rw[Õ (bne_iff_ne.2 h2),if_neg this]
   unfold I64 at hv
   cases c.2.2.1 with
   |true =>
    rw[Ĕ,JN hN hz hr,À,key _ _ _ _ (.inl rfl)];rfl
   |false =>
    rw[Ý,JN hN hr hz,À,key _ _ (-c.2.2.2.1) _ (by split<;>omega)]
    rfl
 ·rw[Õ (by simp[ine,hc]),if_pos hc]
def abJ {c:aqO} (hI:In c.1):nR c=some (rN c):=by
 unfold nR tK rN;rw[iF hI.size hI.num,À]
 by_cases hc:ä c.1=0
 ·have hg:=(ð c.1).1 hc;rw[Ð (by simp[ine,hc]),if_neg (show ¬(ä c.1≠0) from fun h=>h hc)]
  by_cases h1:c.2.1=(0,0)
  ·have e1:(!((Ě c.2.1.1 0)&&((Ě c.2.1.2 0)&&true)))=false:=by rw[h1]; rfl
   rw[e1,Ý]
   cases h2:c.2.2.1 with
   |true=>rw[Ĕ,if_pos (.inr (.inl rfl))]
   |false =>
    rw[Ý]
    by_cases h3:c.2.2.2.1=0
    ·rw[Ð (by rw[h3]; rfl),if_neg (by simp[h1,h3]),rK hI,À,jX hg,show(((Í c.1).length:Int)+1)=(((Í c.1).length+1:Nat):Int) by push_cast; rfl];dsimp only;rw[VV hg.sys,À]
     by_cases h4:xN (æ c.1) c.2.2.2.2=0
     ·rw[Ð (by rw[h4]; rfl),if_pos h4]
     ·rw[Õ (bne_iff_ne.2 h4),if_neg h4]
    ·rw[Õ (bne_iff_ne.2 h3),if_pos (.inr (.inr h3))]
  ·have e1:(!((Ě c.2.1.1 0)&&((Ě c.2.1.2 0)&&true)))=true:=by
    rw[Prod.ext_iff] at h1;simp[Ě];dsimp only at h1;omega
   rw[e1,Ĕ,if_pos (.inl h1)]
 ·rw[Õ (by simp[ine,hc]),if_pos hc]
def aoq {b:ß} {c:aqO} (hb:In b) (hI:In c.1) (hv:I64 c.2.2.2.1):Cb b c=some (ah8 b c):=by
 unfold Cb KM ah8;rw[iF hb.size hb.num,À]
 by_cases hc:ä b=0
 ·rw[Ð (by simp[ine,hc]),if_neg (show ¬(ä b≠0) from fun h=>h hc)]
  by_cases h1:c.2.1=(0,0)
  ·have e1:((Ě c.2.1.1 0)&&((Ě c.2.1.2 0)&&true))=true:=by rw[h1]; rfl
   rw[e1,Ĕ,if_pos h1,abJ hI,À]
   by_cases h2:rN c=0
   ·rw[Ð (by rw[h2]; rfl),if_neg (by simp[h2]),part_ok hI.size hb.size,À]
   ·rw[Õ (bne_iff_ne.2 h2),if_pos h2]
  ·have e1:((Ě c.2.1.1 0)&&((Ě c.2.1.2 0)&&true))=false:=by
    rw[Prod.ext_iff] at h1;simp[Ě];dsimp only at h1;omega
   rw[e1,Ý,if_neg h1,Na hI hv,À]
   by_cases h2:qo c=0
   ·rw[Ð (by rw[h2]; rfl),if_neg (by simp[h2]),part_ok hI.size hb.size,À]
   ·rw[Õ (bne_iff_ne.2 h2),if_pos h2]
 ·rw[Õ (by simp[ine,hc]),if_pos hc]
def Pf (b:ß) (l:List Int):List (Int×Int):=l.map fun i=>(Ť b)[i.toNat]?.getD (0,0)
def ajY {b:ß} (hg:Ğ b) (hn:∀g∈b.2.1,I64 g.2.2.2.2.1.1) {l:List Int} (hl:l.length≤1000) (hi:∀i∈l,0≤i∧i.toNat<(æ b).length):rA b l=some (Pf b l):=by
 unfold rA EU;rw[rK (hg.inn hn),À,jX hg];refine ë l (fun i=>Pf b (l.take i)) _ rfl (fun i a hlt ha kn=>?_) (fun kn=>?_)
 ·try dsimp only
  unfold nM;have hx:=hi a (List.mem_of_getElem? ha);have hs:(Ť b)[a.toNat]?=some ((Ť b)[a.toNat]'(by rw[XN hg]; exact hx.2)):=List.getElem?_eq_getElem _;generalize (Ť b)[a.toNat]'(by rw[XN hg]; exact hx.2)=x at hs
  have hlen:(Pf b (l.take i)).length≤1000:=by unfold Pf; rw[List.length_map,List.length_take]; omega
  rw[Ñ hlt,Ç ha,ka hx.1 hs,Ĥ (show â ((Pf b (l.take i)).length+[x].length)=true from Ô (show(Pf b (l.take i)).length+1≤4294967296 by omega)),Ê hlt (by omega),take_succ ha];unfold Pf;rw[List.map_append,List.map_singleton,hs];rfl
 ·try dsimp only
  unfold nM;rw[Ü,List.take_length]
def src_ok {b:ß}:∀s∈Ť b,aso b s:=by
 intro s hs;unfold Ť at hs;rcases List.mem_append.1 hs with h|h
 ·have:=ae2 s h; exact .inl this
 ·have:=afo s h; exact .inr this
def ao7 {b:ß} (hg:Ğ b) {l:List Int} (hi:∀i∈l,0≤i∧i.toNat<(æ b).length):∀s∈Pf b l,aso b s:=by
 intro s hs;obtain⟨i,h1,rfl⟩:=dZ.1 hs;have hx:=hi i h1;have hsx:(Ť b)[i.toNat]?=some ((Ť b)[i.toNat]'(by rw[XN hg]; exact hx.2)):=df _;rw[hsx];exact src_ok _ (eh _)
section
variable {L:List Lk} {N:Nat}
def LG (R:Nat→List Int) (good:Int→Bool):∀(k:Nat) (u sum:Int) (out:List Int),(∀i∈out,0≤i∧i.toNat<L.length)→(∀i∈tZ L R good k u sum out,0≤i∧i.toNat<L.length)∧(tZ L R good k u sum out).length≤out.length+k
 |0,u,sum,out,h=>⟨h,by simp[tZ]⟩
 |k+1,u,sum,out,h=>by
  unfold tZ
  cases hn:TN L (R k) good u sum with
  |none =>
   have:=LG R good k u sum out h;exact⟨this.1,by have:=this.2; dsimp only; omega⟩
  |some i =>
   have hi:i<L.length:=by
    unfold TN at hn;exact(List.findIdx?_eq_some_iff_getElem.1 hn).1
   have:=LG R good k (L[i]?.getD (0,0,0)).2.1 (sum+(L[i]?.getD (0,0,0)).2.2) (out++[(i:Int)]) (fun j hj=>by
    rcases dk.1 hj with h1|h1
    ·exact h j h1
    ·simp at h1; subst h1; simp; exact hi)
   exact⟨this.1,by have:=this.2; simp at this; dsimp only; omega⟩
def afr (N:Nat) (u v:Int):(∀i∈(TF L N u v).1,0≤i∧i.toNat<L.length)∧(TF L N u v).1.length≤N:=by
 unfold TF
 split
 ·simp
 ·cases h:(pl L N v N).findIdx? (fun x=>gv x u==(iP L N u v).1) with
  |none=>simp
  |some k =>
   have hk:=(List.findIdx?_eq_some_iff_getElem.1 h).1;rw[lG] at hk;have:=LG (L:=L) (exL L N v) (fun n=>ieq n (iP L N u v).1) k u 0 [] (by simp);exact⟨this.1,by have:=this.2; simp at this; dsimp only; omega⟩
end
def M5 (B:ß) (n:Int×Int) (upper:Bool):List Int :=
 if upper then(TF (æ B) ((Í B).length+1) 0 (yr B n.1 n.2)).1 else(TF (æ B) ((Í B).length+1) (yr B n.1 n.2) 0).1
def yY (B:ß) (n:Int×Int) (upper:Bool):ß:=cutP B (Pf B (M5 B n upper)) [n]
def certR (B:ß) (n:Int×Int) (upper:Bool):aqO:=(yY B n upper,n,upper,(if upper then(ivR B n).2 else(ivR B n).1),M5 (yY B n upper) n upper)
def pX (b:ß) (n:Int×Int) (upper:Bool):aqO×Int :=
 if (Ă b [n]).2≠0 then(anK,(Ă b [n]).2) else
 if ä (yY (Ă b [n]).1 n upper)≠0 then(anK,ä (yY (Ă b [n]).1 n upper)) else
 if ĸ (æ (yY (Ă b [n]).1 n upper)) ((Í (yY (Ă b [n]).1 n upper)).length+1) then(certR (Ă b [n]).1 n upper,0) else(anK,9)
def akU {ρ:Type}:@tN ρ=@ċ ρ:=rfl
def aml {ρ:Type} (K:Option ρ):É (fun(v23:Int) kk25=>tM (0:Int) v23 (fun u24=>kk25 u24) (fun _=>K)) (0:Int)=K:=by
 refine Ĭ (fun x=>x=0) (fun _=>0) (fun x hx=>.inl fun kn=>?_) rfl;rw[hx];rfl
def aii {B:ß} (h:Ğ B) (hn:∀g∈B.2.1,I64 g.2.2.2.2.1.1) (n:Int×Int) (upper:Bool):mq (B,Ng B) n upper=some (M5 B n upper):=by
 unfold mq wN M5;rw[M8 h hn,À,show(B,Ng B).2=Ng B from rfl,JQ]
 cases upper with
 |true=>rw[Ĕ,ajR h.sys (ħ B) (ş B n),À]; rfl
 |false=>rw[Ý,ajR h.sys (ş B n) (ħ B),À]; rfl
def akS {B:ß} (h:Ğ B) (n:Int×Int) (upper:Bool):(∀i∈M5 B n upper,0≤i∧i.toNat<(æ B).length)∧(M5 B n upper).length≤60:=by
 have hN:=h.sys.n60;unfold M5
 split
 ·have:=afr (L:=æ B) ((Í B).length+1) 0 (yr B n.1 n.2);exact⟨this.1,by have:=this.2; omega⟩
 ·have:=afr (L:=æ B) ((Í B).length+1) (yr B n.1 n.2) 0;exact⟨this.1,by have:=this.2; omega⟩
def Ss (w:List Int):∀(l:List Cmp) (i:Nat),∀c∈FS w i l,c∈l
 |[],i,c,h=>by simp[FS] at h
 |a::l,i,c,h=>by
  simp only[FS] at h
  split at h
  ·rcases dm.1 h with h|h
   ·rw[h]; simp
   ·exact eR _ (Ss w l (i+1) c h)
  ·exact eR _ (Ss w l (i+1) c h)
def aq8 {b:ß} (h:In b) (ss:List (Int×Int)) {looks:List (Int×Int)} (hl:looks.length≤1000):In (cutP b ss looks):=by
 obtain⟨hs,hn⟩:=h;have g1:=hs.gauges; have g2:=hs.uses; have g3:=hs.loans; have g4:=hs.compares;unfold cutP;refine⟨⟨?_,?_,?_,?_,hl,fun c hc=>hs.piles c (Ss _ _ _ c hc)⟩,fun g hg=>hn g (List.mem_filter.1 hg).1⟩
 ·exact dL (dP _ _) g1
 ·exact dL (dP _ _) g2
 ·exact dL (dP _ _) g3
 ·exact dL (Su _ _ _) g4
def aln {b:ß} (hI:In b) (n:Int×Int) (upper:Bool):xz b n upper=some (pX b n upper):=by
 unfold xz Fy pX;rw[akU];refine(rW hI (ns:=[n]) (by simp) (fun e=>some (anK,e)) (fun e he=>by rw[Ĥ (by simp[ine,he])]; rfl) (fun z he=>by rw[Ĥ (by simp[ine,he])]; rfl) (fun _ _ _=>rfl)).trans ?_
 split
 ·rfl
 ·rename_i e;have hr:=(jn hI (by simpa using e)).1;dsimp only;generalize (Ă b [n]).1=B at hr ⊢;have hci:=akS hr.good n upper;have hpi:In (yY B n upper):=aq8 (hr.good.inn hr.num) _ (by simp)
  rw[xr,show((((Í B).length:Int)+1,æ B):Sys)=Ng B from rfl,aii hr.good hr.num,À,ajY hr.good hr.num (by omega) hci.1,À,
   cut_ok hr.good.size (by unfold Pf; rw[List.length_map]; omega) (by simp) (ao7 hr.good hci.1),À,show cutP B (Pf B (M5 B n upper)) [n]=yY B n upper from rfl,iF hpi.size hpi.num,À]
  by_cases hc:ä (yY B n upper)=0
  ·have hg:=(ð _).1 hc;rw[Ð (by simp[ine,hc]),if_neg (show ¬(ä (yY B n upper)≠0) from fun h=>h hc)];refine(aml _).trans ?_;rw[rK hpi,À,jX hg,Ð (by rfl)];dsimp only;rw[show((((Í (yY B n upper)).length:Int)+1,æ (yY B n upper)):Sys)=Ng (yY B n upper) from rfl,JQ (yY B n upper),JM hg.sys,À]
   cases ho:ĸ (æ (yY B n upper)) ((Í (yY B n upper)).length+1) with
   |false=>rw[if_neg (by simp)]; rfl
   |true =>
    rw[if_pos rfl,←JQ (yY B n upper),Ð (by rfl),Xa hr,À,aii hg hpi.num,À]
    cases upper with
    |true=>rw[Ĕ,I1 hr,À]; rfl
    |false=>rfl
  ·rw[Õ (by simp[ine,hc]),if_pos hc,Õ (by simp[ine,hc])];rfl
def akP {L:List Lk} {N:Nat} (h:Ŋ L N) (ho:ĸ L N=true):Bg ((N:Int),L)=some ([],5):=by
 have hN:=h.n60;unfold Bg Rr;rw[mC h,À,Ð (by rfl),D8 h.links h.n1 (by omega),À,if_pos ho];rfl
def agd {b:ß} (hg:Ğ b) (hn:∀g∈b.2.1,I64 g.2.2.2.2.1.1) (ho:ĸ (æ b) ((Í b).length+1)=true):Ji b=some (anK,5):=by
 unfold Ji Ra;rw[rK (hg.inn hn),À,jX hg,Ð (by rfl),show((((Í b).length:Int)+1,æ b),Ť b,(0:Int)).1=Ng b from rfl,JQ,akP hg.sys ho,À];rfl
section
variable {b:ß} {c d:Cmp} {s:Int×Int}
def arz (h:Pred b c s) : -10000000000000000≤s.1∧s.1≤s.2∧s.2≤10000000000000000:=by
 have q:=h.good2.cmp (BH (c:=È c));obtain⟨_,_,b1,b2,b3⟩:=yQ (b:=b) h.good.film (c:=È c) ⟨q.nums,q.r1,q.r2⟩;have e1:ahr b c=LW (ń b (È c)).1+(km b (È c)).1-(È c).2.2.2.2.2.1:=rfl;have e2:FU b c=(ń b (È c)).2.1 / (ń b (È c)).2.2+(km b (È c)).2+(È c).2.2.2.2.2.1:=rfl;have o:=h.order;have n:=h.ends;have bd:=h.bd;omega
end
def iw (e:End):List Int:=[e.1-e.2.1,e.2.2-e.1,Int.tdiv (e.2.2-e.2.1) 2,Int.tdiv (e.2.2-e.2.1) 2-1,Int.tdiv (e.2.2-e.2.1) 2+1]
def uG (e:End) (n:Int):List Int:=[n-e.2.1,e.2.2-n]
def atE (e:End) (d:Int):Int:=min e.1 (min (e.2.1+d) (e.2.2-d))
def Ph (w:L6) (d:Int):Int×Int:=(-(atE w.2.2 d),atE w.2.1 d)
def akB (r:Int×Int) (n:Int):List Int:=[n-2,n-1,n,n+1,n+2].filter fun d=>decide (r.1<d)&&decide (d<r.2)
def TO (r:Int×Int) (l:List Int):List Int:=[r.1,r.2]++l.flatMap (akB r)
def aih (w:L6) (l:List Int):Int:=l.foldl (fun m d=>max m ((Ph w d).2-(Ph w d).1)) (-1)
def aly (w:L6):Int:=aih w (TO w.1 (iw w.2.1++iw w.2.2))
def Sm (n:Int):Prop:=-100000000000000000≤n∧n≤100000000000000000
structure abH (e:End):Prop where
 s:Sm e.1
 u:Sm e.2.1
 d:Sm e.2.2
structure abA (w:L6):Prop where
 lo:Sm w.1.1
 hi:Sm w.1.2
 high:abH w.2.1
 low:abH w.2.2
def abX (n:Int) : -1≤n-2*Int.tdiv n 2∧n-2*Int.tdiv n 2≤1:=by
 have h1:=Int.tmod_add_mul_tdiv n 2;have h2:=Int.tmod_two_eq n;omega
def OD {e:End} (h:abH e):jg e=some (iw e):=by
 obtain⟨⟨a1,a2⟩,⟨b1,b2⟩,c1,c2⟩:=h;have h2:=abX (e.2.2-e.2.1);unfold jg wG;rw[Ò (by omega) (by omega),Ò (by omega) (by omega),Ò (by omega) (by omega),Ò (by omega) (by omega),Ò (by omega) (by omega),Ò (by omega) (by omega)];rfl
def OQ {e:End} (h:abH e) {n:Int} (hn : -1000000000000000000≤n∧n≤1000000000000000000):jh e n=some (uG e n):=by
 obtain⟨⟨a1,a2⟩,⟨b1,b2⟩,c1,c2⟩:=h;unfold jh wH;rw[Ò (by omega) (by omega),Ò (by omega) (by omega)];rfl
def ari {e:End} (h:abH e) {d:Int} (hd:Sm d):vN e d=some (atE e d):=by
 obtain⟨⟨a1,a2⟩,⟨b1,b2⟩,c1,c2⟩:=h;obtain⟨d1,d2⟩:=hd;unfold vN KK;rw[Ò (by omega) (by omega),Ò (by omega) (by omega),tX,tX];unfold atE;congr 1;omega
def aok {e:End} (h:abH e) {d:Int} (hd:Sm d) : -200000000000000000≤atE e d∧atE e d≤100000000000000000:=by
 obtain⟨⟨a1,a2⟩,⟨b1,b2⟩,c1,c2⟩:=h;obtain⟨d1,d2⟩:=hd;unfold atE;omega
def alN {w:L6} (h:abA w) {d:Int} (hd:Sm d):ř w d=some (Ph w d):=by
 unfold ř tB;have b1:=aok h.low hd;rw[ari h.low hd,À,Ò (by omega) (by omega),ari h.high hd,À];unfold Ph;rw[Int.zero_sub]
def apW (r:Int×Int) (n:Int):(akB r n).length≤5:=dP _ _
def SH (r:Int×Int):∀l:List Int,(l.flatMap (akB r)).length≤l.length*5
 |[]=>by simp
 |n::l=>by
  have h1:=apW r n;have h2:=SH r l;rw[ez,di,dn];omega
def arL {ρ:Type} (r:Int×Int) {n:Int} (hn : -4000000000000000000≤n∧n≤4000000000000000000) {out:List Int} (ho:out.length≤1000) (K:List Int→Option ρ) :
 É (fun(v9:(Val (.pair tI (.slice tI)))) kk12=>iI n r.1 r.2 v9.1 v9.2 (fun u10 u11=>kk12 (u10,u11)) K) (n-2,out)=K (out++akB r n):=by
 let five:List Int:=[n-2,n-1,n,n+1,n+2]
 have hg:∀(i:Nat),i<5→five[i]?=some (n-2+i):=by
  intro i hi
  have:i=0∨i=1∨i=2∨i=3∨i=4:=by omega
  rcases this with rfl|rfl|rfl|rfl|rfl<;>simp only[five,fJ,List.getElem?_cons_succ]<;>congr 1<;>omega
 refine Ĭ (fun v=>∃i:Nat,i≤5∧v=(n-2+(i:Int),out++(five.take i).filter fun d=>decide (r.1<d)&&decide (d<r.2))) (fun v=>(n+3-v.1).toNat) ?_ ⟨0,by omega,by simp⟩;rintro v ⟨i,hi,rfl⟩;rcases dG i 5 with h5|h5
 ·refine .inr ⟨(n-2+((i+1:Nat):Int),out++(five.take (i+1)).filter fun d=>decide (r.1<d)&&decide (d<r.2)),⟨i+1,h5,rfl⟩,by dsimp only; omega,fun kn=>?_⟩;have hl:((five.take i).filter fun d=>decide (r.1<d)&&decide (d<r.2)).length≤5:=ro _ five i;dsimp only;unfold iI;rw[Ò (by omega) (by omega),Õ (decide_eq_true (by omega)),take_succ (hg i h5),List.filter_append]
  have e0:n-2+(i:Int)+1=n-2+((i+1:Nat):Int):=by push_cast; omega
  by_cases h1:r.1<n-2+(i:Int)
  ·rw[Õ (show igt (n-2+(i:Int)) r.1=true from decide_eq_true h1)]
   by_cases h2:n-2+(i:Int)<r.2
   ·rw[Õ (show ilt (n-2+(i:Int)) r.2=true from decide_eq_true h2),Ĥ (Ô (by rw[di]; simp only[dN]; omega)),Ò (by omega) (by omega),e0];simp[h1,h2]
   ·rw[Ð (show ilt (n-2+(i:Int)) r.2=false from decide_eq_false h2),Ò (by omega) (by omega),e0];simp[h1,h2]
  ·rw[Ð (show igt (n-2+(i:Int)) r.1=false from decide_eq_false h1),Ò (by omega) (by omega),e0];simp[h1]
 ·refine .inl fun kn=>?_
  obtain rfl:i=5:=by omega
  dsimp only;unfold iI;rw[Ò (by omega) (by omega),Ð (decide_eq_false (by omega))];rfl
def amx (w:L6) {l:List Int} (hl:l.length≤100) (hn:∀n∈l,-2000000000000000000≤n∧n≤2000000000000000000):kG w l=some (TO w.1 l):=by
 unfold kG tC;refine ë l (fun i=>[w.1.1,w.1.2]++(l.take i).flatMap (akB w.1)) _ rfl (fun i n hi ha kn=>?_) (fun kn=>?_)
 ·try dsimp only
  unfold j7;have hb:=hn n (List.mem_of_getElem? ha);have h5:=SH w.1 (l.take i)
  have ht:(l.take i).length≤100:=by rw[dv]; omega
  rw[Ñ hi,Ç ha,Ò (by omega) (by omega)];refine(arL w.1 (by omega) (by rw[di]; simp only[dn,dH]; omega) _).trans ?_;rw[Ê hi (by omega),take_succ ha,ft,dF];simp
 ·try dsimp only
  unfold j7;rw[Ü,List.take_length];rfl
def apA {r:Int×Int} {l:List Int} {d:Int}:d∈TO r l↔d=r.1∨d=r.2∨(r.1<d∧d<r.2∧∃n∈l,n-2≤d∧d≤n+2):=by
 unfold TO akB;simp only[List.mem_append,List.mem_cons,List.not_mem_nil,or_false,List.mem_flatMap,List.mem_filter,Bool.and_eq_true,decide_eq_true_eq];constructor
 ·rintro((h|h)|⟨n,hn,h,h1,h2⟩)
  ·exact .inl h
  ·exact .inr (.inl h)
  ·exact .inr (.inr ⟨h1,h2,n,hn,by omega,by omega⟩)
 ·rintro(h|h|⟨h1,h2,n,hn,h3,h4⟩)
  ·exact .inl (.inl h)
  ·exact .inl (.inr h)
  ·exact .inr ⟨n,hn,by omega,h1,h2⟩
def aiU (r:Int×Int) {l:List Int} (hl:l.length≤100):(TO r l).length≤600:=by
 have:=SH r l;unfold TO;rw[List.length_append];simp only[List.length_cons,List.length_nil];omega
def amw {w:L6} (h:abA w) {l:List Int}:∀d∈TO w.1 l,Sm d:=by
 intro d hd;obtain⟨a1,a2⟩:=h.lo;obtain⟨b1,b2⟩:=h.hi;rcases apA.1 hd with h|h|⟨h1,h2,_⟩
 ·rw[h]; exact⟨a1,a2⟩
 ·rw[h]; exact⟨b1,b2⟩
 ·exact⟨by omega,by omega⟩
def OE {e:End} (h:abH e):∀n∈iw e,-1000000000000000000≤n∧n≤1000000000000000000:=by
 obtain⟨⟨a1,a2⟩,⟨b1,b2⟩,c1,c2⟩:=h;have h2:=abX (e.2.2-e.2.1);intro n hn;unfold iw at hn;simp only[List.mem_cons,List.not_mem_nil,or_false] at hn;omega
def aoU {w:L6} (h:abA w):mm w=some (aly w):=by
 unfold mm qF
 have hl:([iw w.2.1,iw w.2.2]:List (List Int)).flatten=iw w.2.1++iw w.2.2:=by simp
 have hll:(iw w.2.1++iw w.2.2).length=10:=rfl
 rw[OD h.high,À,OD h.low,À,qn (by simp) (by rw[hl,hll]; omega),À,hl,amx w (by rw[hll]; omega) (fun n hn=>by
  rcases dk.1 hn with hn|hn
  ·have:=OE h.high n hn; omega
  ·have:=OE h.low n hn; omega),À]
 have hnl:=aiU w.1 (l:=iw w.2.1++iw w.2.2) (by rw[hll]; omega);have hsm:=amw h (l:=iw w.2.1++iw w.2.2);unfold aly;generalize TO w.1 (iw w.2.1++iw w.2.2)=l at hnl hsm ⊢;refine Ĭ (fun v=>∃i:Nat,i≤l.length∧v=(aih w (l.take i),(i:Int))) (fun v=>l.length-v.2.toNat) ?_ ⟨0,by omega,rfl⟩;rintro v ⟨i,hi,rfl⟩;rcases Nat.lt_or_ge i l.length with h2|h2
 ·have ha:l[i]?=some l[i]:=List.getElem?_eq_getElem h2;have hs:=hsm l[i] (List.getElem_mem _);generalize l[i]=d at ha hs;refine .inr ⟨(aih w (l.take (i+1)),((i+1:Nat):Int)),⟨i+1,h2,rfl⟩,by dsimp only; omega,fun kn=>?_⟩;dsimp only;unfold jG;have b1:=aok h.low hs;have b2:=aok h.high hs;rw[Ñ h2,Ç ha,show ř ((w.1.1,w.1.2),(w.2.1.1,w.2.1.2.1,w.2.1.2.2),w.2.2.1,w.2.2.2.1,w.2.2.2.2) d=ř w d from rfl,alN h hs,À,Ò (by unfold Ph; dsimp only; omega) (by unfold Ph; dsimp only; omega),Ê h2 (by omega),SA,take_succ ha];unfold aih;rw[List.foldl_append];rfl
 ·refine .inl fun kn=>?_
  obtain rfl:i=l.length:=by omega
  dsimp only;unfold jG;rw[Ü,List.take_length]
def aig {b:ß} {n:Int×Int} {c:Cmp} (hp:(ľ b c).2=0):abA (abM b n c):=by
 obtain⟨g1,g2⟩:=pW hp;have ho:=Mi hp;have hb:=arz (acg hp);have hx:=D0 g2;have hy:=DZ g2;have b6:=alU g1 g2 ho
 have key:∀{s t:Int},0≤s∧s<((Í (î b (È c))).length+1:Nat)→0≤t∧t<((Í (î b (È c))).length+1:Nat)→abH (endP b (È c) s t):=by
  intro s t hs ht;have b1:=tY g1 g2 ho hs ht;have b2:=tY g1 g2 ho hs hy;have b3:=tY g1 g2 ho hx ht;have b4:=tY g1 g2 ho hs hx;have b5:=tY g1 g2 ho hy ht;unfold endP;exact⟨⟨by dsimp only; omega,by dsimp only; omega⟩,⟨by dsimp only; omega,by dsimp only; omega⟩,by dsimp only; omega,by dsimp only; omega⟩
 exact⟨⟨by show _≤(ľ b c).1.1; omega,by show(ľ b c).1.1≤_; omega⟩,⟨by show _≤(ľ b c).1.2; omega,by show(ľ b c).1.2≤_; omega⟩,key (ħ _) (ş _ n),key (ş _ n) (ħ _)⟩
def ajI (b:ß) (n:Int×Int) (c:Cmp):Int×Int :=
 if (Ă b [n]).2≠0 then(0,(Ă b [n]).2) else if (ľ (Ă b [n]).1 c).2≠0 then(0,(ľ (Ă b [n]).1 c).2) else(aly (abM (Ă b [n]).1 n c),0)
def aoV {ρ:Type}:@Al ρ=@ċ ρ:=rfl
def aqC {b:ß} (hI:In b) (n:Int×Int) {c:Cmp} (hA:c.2.2.1.length≤1000) (hB:c.2.2.2.1.length≤1000):Be b n c=some (ajI b n c):=by
 unfold Be Q4 ajI;rw[aoV];refine(rW hI (ns:=[n]) (by simp) (fun e=>some ((0:Int),e)) (fun e he=>by rw[Ĥ (by simp[ine,he])]) (fun z he=>by rw[Ĥ (by simp[ine,he])]) (fun _ _ _=>rfl)).trans ?_
 split
 ·rfl
 ·rename_i e;have hr:=(jn hI (by simpa using e)).1;dsimp only;rw[xr,show((((Í (Ă b [n]).1).length:Int)+1,æ (Ă b [n]).1):Sys)=Ng (Ă b [n]).1 from rfl,aeU hr n hA hB,À];unfold aaU
  by_cases hp:(ľ (Ă b [n]).1 c).2=0
  ·rw[if_neg (by simp[hp]),if_neg (by simp[hp]),Ð (by rfl),aoU (aig hp),À]
  ·rw[if_pos hp,if_pos hp,Õ (bne_iff_ne.2 hp)]
def als (x:Int):Int:=max (-288230376151711744) (min x 288230376151711744)
def Ea (w:L6) (l:Int×Int):List Int:=(iw w.2.1++iw w.2.2)++(uG w.2.1 l.1++uG w.2.2 (-l.1))++(uG w.2.1 l.2++uG w.2.2 (-l.2))
def aiw (w:L6) (l:Int×Int):Bool:=(TO w.1 (Ea w l)).all fun d=>rP (Ph w d) l != 3
def O6 (b:ß) (n l:Int×Int) (c:Cmp):Bool×Int :=
 if (Ă b [n]).2≠0 then(false,(Ă b [n]).2) else if l.2<l.1 then(false,1) else if (ľ (Ă b [n]).1 c).2≠0 then(false,(ľ (Ă b [n]).1 c).2) else(aiw (abM (Ă b [n]).1 n c) (als l.1,als l.2),0)
def ajZ {ρ:Type}:@tG ρ=@ċ ρ:=rfl
def aq6 (x:Int):mn x=some (als x):=by
 unfold mn wK als;rw[tX,SA]
def OS {e:End} (h:abH e) {n:Int} (hn : -300000000000000000≤n∧n≤300000000000000000):∀m∈uG e n,-1000000000000000000≤m∧m≤1000000000000000000:=by
 obtain⟨⟨a1,a2⟩,⟨b1,b2⟩,c1,c2⟩:=h;intro m hm;unfold uG at hm;simp only[List.mem_cons,List.not_mem_nil,or_false] at hm;omega
def ale {b:ß} (hI:In b) (n l:Int×Int) {c:Cmp} (hA:c.2.2.1.length≤1000) (hB:c.2.2.2.1.length≤1000):rB b n l c=some (O6 b n l c):=by
 unfold rB Fw O6;rw[ajZ];refine(rW hI (ns:=[n]) (by simp) (fun e=>some (false,e)) (fun e he=>by rw[Õ (by simp[ine,he])]) (fun z he=>by rw[Õ (by simp[ine,he])]) (fun _ _ _=>rfl)).trans ?_
 split
 ·rfl
 ·rename_i e;have hr:=(jn hI (by simpa using e)).1;dsimp only
  by_cases hl:l.2<l.1
  ·rw[Õ (by simp[igt,hl]),if_pos hl]
  ·rw[Ð (by simp[igt]; omega),if_neg hl,xr,show((((Í (Ă b [n]).1).length:Int)+1,æ (Ă b [n]).1):Sys)=Ng (Ă b [n]).1 from rfl,aeU hr n hA hB,À];unfold aaU
   by_cases hp:(ľ (Ă b [n]).1 c).2=0
   ·rw[if_neg (by simp[hp]),if_neg (by simp[hp]),Ð (by rfl)];have hw:=aig (n:=n) hp;dsimp only;generalize abM (Ă b [n]).1 n c=w at hw ⊢
    have f1 : -300000000000000000≤als l.1∧als l.1≤300000000000000000:=by unfold als; omega
    have f2 : -300000000000000000≤als l.2∧als l.2≤300000000000000000:=by unfold als; omega
    have q1:([iw w.2.1,iw w.2.2]:List (List Int)).flatten=iw w.2.1++iw w.2.2:=by simp
    have q2:∀x y z:List Int,([x,y,z]:List (List Int)).flatten=x++(y++z):=by intro x y z; simp
    rw[OD hw.high,À,OD hw.low,À,qn (by simp) (by rw[q1]; simp[iw]),À,q1,aq6,À,aq6,À];generalize als l.1=l1 at f1 ⊢;generalize als l.2=l2 at f2 ⊢
    rw[OQ hw.high (by omega),À,Ò (by omega) (by omega),Int.zero_sub,OQ hw.low (by omega),À,qn (by simp) (by rw[q2]; simp[iw,uG]),À,q2,
     OQ hw.high (by omega),À,Ò (by omega) (by omega),Int.zero_sub,OQ hw.low (by omega),À,qn (by simp) (by rw[q2]; simp[iw,uG]),À,q2]
    have hll:(Ea w (l1,l2)).length=18:=rfl;have qs:iw w.2.1++iw w.2.2++(uG w.2.1 l1++uG w.2.2 (-l1))++(uG w.2.1 l2++uG w.2.2 (-l2))=Ea w (l1,l2):=rfl
    rw[qs,amx w (by rw[hll]; omega) (fun m hm=>by
     unfold Ea at hm;simp only[List.mem_append] at hm;rcases hm with((hm|hm)|(hm|hm))|(hm|hm)
     ·have:=OE hw.high m hm; omega
     ·have:=OE hw.low m hm; omega
     ·have:=OS hw.high f1 m hm; omega
     ·have:=OS hw.low (n:=-l1) (by omega) m hm; omega
     ·have:=OS hw.high f2 m hm; omega
     ·have:=OS hw.low (n:=-l2) (by omega) m hm; omega),À]
    have hnl:=aiU w.1 (l:=Ea w (l1,l2)) (by rw[hll]; omega);have hsm:=amw hw (l:=Ea w (l1,l2));unfold aiw;generalize TO w.1 (Ea w (l1,l2))=ds at hnl hsm ⊢;refine(Ĺ ds (fun d=>rP (Ph w d) (l1,l2)==3) (fun z30=>some ((!(ige z30 (0:Int))),(0:Int))) (some (false,0)) (some (true,0)) (fun j=>by rw[show ige (j:Int) 0=true from decide_eq_true (by omega)]; rfl) (fun i d hi hd kn=>?_) (fun kn=>?_)).trans ?_
    ·try dsimp only
     unfold nN;rw[Ñ hi,Ç hd,show ř ((w.1.1,w.1.2),(w.2.1.1,w.2.1.2.1,w.2.1.2.2),w.2.2.1,w.2.2.2.1,w.2.2.2.2) d=ř w d from rfl,alN hw (hsm d (List.mem_of_getElem? hd)),À,VX,À,Ê hi (by omega),ĥ]
    ·try dsimp only
     unfold nN;rw[Ü]
    ·rw[show(fun d=>rP (Ph w d) (l1,l2) != 3)=(fun d=>!(rP (Ph w d) (l1,l2)==3)) from rfl,←List.not_any_eq_all_not]
     cases ds.any fun d=>rP (Ph w d) (l1,l2)==3<;>rfl
   ·rw[if_pos hp,if_pos hp,Õ (bne_iff_ne.2 hp)]
section
variable {L:List Lk} {N:Nat} {x y H G:Int}
def aba (h:Ŋ L N) (ht:JH L N) (ho:ĸ L N=true) {s t:Int} (hs:0≤s∧s<N) (hv:0≤t∧t<N):∃vs,Wl L (fun u=>u=s) vs t (dst L N s t):=by
 have h2:=h.n60;obtain⟨p,hp⟩:=(Ŝ h.links (by omega)).1 ho;obtain⟨vs,hw⟩:=(jW h.links (by omega) hp hs).att t hv.1 hv.2 (ajj h ht ho hs hv);exact⟨vs,acL.1 hw⟩
def ahF (h:Ŋ L N) (ho:ĸ L N=true) {s t d:Int} (hs:0≤s∧s<N) {vs:List Int} (hw:Wl L (fun u=>u=s) vs t d):dst L N s t≤d:=by
 have h2:=h.n60;obtain⟨p,hp⟩:=(Ŝ h.links (by omega)).1 ho;exact(jW h.links (by omega) hp hs).low t vs d (acL.2 hw)
end
inductive Wk (L:List Lk) (to:Int):Nat→Int→Int→Prop
 |nil:Wk L to 0 to 0
 |step {k:Nat} {v w m d:Int}:(v,w,m)∈L→Wk L to k w d→Wk L to (k+1) v (m+d)
section
variable {L:List Lk} {N:Nat}
def Wk.snoc {u v m:Int} (hl:(u,v,m)∈L):∀{k:Nat} {s d:Int},Wk L u k s d→Wk L v (k+1) s (d+m):=by
 intro k s d h
 induction h with
 |nil =>
  have:=Wk.step hl (Wk.nil (L:=L) (to:=v))
  have e:m+0=0+m:=by omega
  rw[e] at this;exact this
 | @step k a w m' d h1 h2 ih =>
  have:=Wk.step h1 ih
  have e:m'+(d+m)=m'+d+m:=by omega
  rw[e] at this;exact this
def Wl.front {s w m:Int} (hl:(s,w,m)∈L) {vs:List Int} {t d:Int} (h:Wl L (fun u=>u=w) vs t d):Wl L (fun u=>u=s) (vs++[s]) t (m+d):=by
 induction h with
 | @nil v hv =>
  have hv':v=w:=hv;subst hv';have:=Wl.step (Wl.nil (L:=L) (S:=fun u=>u=s) rfl) hl
  have e:0+m=m+0:=by omega
  rw[e] at this;exact this
 | @step vs u v m' d h1 h2 ih =>
  have:=Wl.step ih h2
  have e:m+d+m'=m+(d+m'):=by omega
  rw[e] at this;exact this
def Wk.wl {t:Int} {k:Nat} {s d:Int} (h:Wk L t k s d):∃vs,vs.length=k∧Wl L (fun u=>u=s) vs t d:=by
 induction h with
 |nil=>exact⟨[],rfl,.nil rfl⟩
 | @step k v w m d h1 h2 ih =>
  obtain⟨vs,e,h⟩:=ih;exact⟨vs++[v],by simp[e],h.front h1⟩
def apM {P:Int→Prop} {B:Int} (h:∃d,P d) (hB:∀d,P d→B≤d):∃d,P d∧∀e,P e→d≤e:=by
 obtain⟨d0,h0⟩:=h
 have:∀(n:Nat) (d:Int),P d→(d-B).toNat≤n→∃d,P d∧∀e,P e→d≤e:=by
  intro n
  induction n with
  |zero=>intro d hd hn; exact⟨d,hd,fun e he=>by have:=hB e he; have:=hB d hd; omega⟩
  |succ n ih =>
   intro d hd hn
   by_cases hx:∃e,P e∧e<d
   ·obtain⟨e,he,hl⟩:=hx;exact ih e he (by have:=hB e he; omega)
   ·exact⟨d,hd,fun e he=>by
     rcases gT e d with q|q
     ·exact absurd ⟨e,he,q⟩ hx
     ·exact q⟩
 exact this _ d0 h0 (dg _)
def Wl.cutK {S:Int→Prop} {vs:List Int} {u d:Int} (h:Wl L S vs u d):∀x∈u::vs,∃vs1 d1 k d2,Wl L S vs1 x d1∧(x::vs1) <:+ (u::vs)∧Wk L u k x d2∧d=d1+d2∧k≤vs.length:=by
 induction h with
 | @nil v hv =>
  intro x hx;simp at hx;subst hx;exact⟨[],0,0,0,.nil hv,List.suffix_refl _,.nil,by omega,by simp⟩
 | @step vs u v m d hw hl ih =>
  intro x hx;rcases dm.1 hx with rfl|hx
  ·exact⟨u::vs,d+m,0,0,.step hw hl,List.suffix_refl _,.nil,by omega,by simp⟩
  ·obtain⟨vs1,d1,k,d2,g1,g2,g3,g4,g5⟩:=ih x hx;exact⟨vs1,d1,k+1,d2+m,g1,g2.trans (List.suffix_cons _ _),g3.snoc hl,by omega,by simp; omega⟩
def Wy (hS:Ŋ L N) (hno:ĸ L N=false):∃(k:Nat) (v d:Int),1≤k∧k≤N∧(0≤v∧v<N)∧Wk L v k v d∧d<0:=by
 have hn:=hS.n60;apply Classical.byContradiction;intro hc
 have hcl:∀{k:Nat} {v d:Int},1≤k→k≤N→(0≤v∧v<N)→Wk L v k v d→0≤d:=fun {k v d} h1 h2 h3 h4=>by
  rcases gT d 0 with q|q
  ·exact absurd ⟨k,v,d,h1,h2,h3,h4,q⟩ hc
  ·exact q
 have hinr:∀l∈L,-4503599627370496≤l.2.2:=fun l hl=>(hS.most l hl).1
 let P:Int→Int→Prop:=fun v d=>∃vs,Wl L (fun u=>0≤u∧u<N) vs v d∧(v::vs).Nodup
 have hP:∀v:Int,0≤v∧v<N→∃d,P v d∧∀e,P v e→d≤e:=fun v hv=>apM (B:=-(60*4503599627370496)) ⟨0,[],.nil hv,by simp⟩ (by
  rintro d ⟨vs,h1,h2⟩;have q1:=h1.lowM hinr;have q2:=h1.short hS.inr (fun w hw=>hw) h2
  have:((vs.length:Nat):Int)*4503599627370496≤60*4503599627370496:=by omega
  omega)
 have ho:ĸ L N=true:=by
  refine(Ŝ hS.links (by omega)).2 ⟨fun v=>if hv:0≤v∧v<(N:Int) then Classical.choose (hP v hv) else 0,fun u v m hl=>?_⟩;have hr:=hS.inr _ hl;dsimp only at hr;obtain⟨⟨vs,hw,hnd⟩,hu2⟩:=Classical.choose_spec (hP u hr.1);obtain⟨_,hv2⟩:=Classical.choose_spec (hP v hr.2);have e1:(if hv:0≤u∧u<(N:Int) then Classical.choose (hP u hv) else 0)=Classical.choose (hP u hr.1):=dif_pos hr.1;have e2:(if hv:0≤v∧v<(N:Int) then Classical.choose (hP v hv) else 0)=Classical.choose (hP v hr.2):=dif_pos hr.2;dsimp only;rw[e1,e2];generalize Classical.choose (hP u hr.1)=a at *;generalize Classical.choose (hP v hr.2)=b at *
  by_cases hv:v∈u::vs
  ·obtain⟨vs1,d1,k,d2,g1,g2,g3,g4,g5⟩:=hw.cutK v hv;have hlen:=hw.short hS.inr (fun w hw=>hw) hnd;have:=hcl (by omega) (by omega) hr.2 (g3.snoc hl);have:=hv2 d1 ⟨vs1,g1,hnd.sublist g2.sublist⟩;omega
  ·have:=hv2 (a+m) ⟨u::vs,hw.step hl,f8.2 ⟨hv,hnd⟩⟩;omega
 rw[hno] at ho;cases ho
end
def akT {b:ß} (h:In b) (n:Int×Int) (upper:Bool):In (pX b n upper).1.1:=by
 have h0:In mK:=⟨⟨by simp[mK],by simp[mK],by simp[mK],by simp[mK],by simp[mK],by simp[mK]⟩,by simp[mK]⟩;unfold pX
 by_cases e:(Ă b [n]).2=0
 ·rw[if_neg (by simp[e])];have hr:=(jn h e).1
  split
  ·exact h0
  ·split
   ·exact aq8 (hr.good.inn hr.num) _ (by simp)
   ·exact h0
 ·rw[if_pos e]; exact h0
def y1:JL exB (2,10)=((984,1011),0):=by decide +kernel
def y2:JL exB (1,30)=((964,1005),0):=by decide +kernel
def y3:abK exB (1,10) (2,10)=((-6,11),0):=by decide +kernel
def y4:VT exB 10 [1,2]=((1979,2018),0):=by decide +kernel
def y5:aoJ exB (2,0) (990,1010)=(3,0):=by decide +kernel
def y6:(pX exB (2,10) true).2=0∧(pX exB (2,10) true).1.2.2.2.1=1011:=by decide +kernel
def y7:ajI exB (2,10) exC=(10,0):=by decide +kernel
def y8:O6 exB (2,10) (900,1100) exC=(true,0):=by decide +kernel
def y9:ah8 exB (pX exB (2,10) true).1=(true,0):=by decide +kernel
def y10:ä exB=0∧ĸ (æ exB) ((Í exB).length+1)=true:=by decide +kernel
def y11:qo (pX exB (2,10) true).1=0:=by decide +kernel
def aj1:ω=some true:=by
 unfold ω Es Ba zh;have hc:=akT Bj (2,10) true
 have hv:I64 (pX exB (2,10) true).1.2.2.2.1:=by rw[y6.2]; unfold I64; omega
 rw[À];rw[show((((0:Int),(2:Int)),[((1:Int),(0:Int),(1000:Int),((-5:Int),(5:Int)),((1:Int),(10:Int)),(1:Int)),((2:Int),(0:Int),(1000:Int),((-50:Int),(50:Int)),((1:Int),(4:Int)),(0:Int))],[((1:Int),(10:Int))],[((1:Int),((20:Int),(29:Int)),(3:Int))],[((7:Int),(10:Int),[(1:Int)],[(2:Int)],(-20:Int),(1:Int),(100:Int),(200:Int))],([]:List (Int×Int))):ß)=exB from rfl];rw[TD Bj,À,TD Bj,À,alo Bj,À,aoD Bj _ (by decide),À,aqN Bj,À,aln Bj,À,y1,y2,y3,y4,y5,y6.1,y6.2]
 rw[show Be exB ((2:Int),(10:Int)) ((8:Int),(10:Int),[(1:Int)],[(2:Int)],(0:Int),(0:Int),(0:Int),(0:Int))=some (ajI exB (2,10) exC) from aqC Bj _ (c:=exC) (by decide) (by decide),
  show rB exB ((2:Int),(10:Int)) ((900:Int),(1100:Int)) ((8:Int),(10:Int),[(1:Int)],[(2:Int)],(0:Int),(0:Int),(0:Int),(0:Int))=some (O6 exB (2,10) (900,1100) exC) from ale Bj _ _ (c:=exC) (by decide) (by decide),
  aoq Bj hc hv,agd ((ð _).1 y10.1) Bj.num y10.2,Na hc hv,y7,y8,y9,y11]
 rfl
theorem Pj {L:List Lk} {N:Nat} {v:Int} (h0:0≤v) (h1:v<N):gv (solP L N) v=gv (Į L N) v-gv (Į L N) 0:=by
 have hl:(Į L N).length=N:=by unfold Į; rw[ķ,þ]
 have h2:v.toNat<(Į L N).length:=by omega
 unfold solP;generalize gv (Į L N) 0=z;unfold gv;rw[List.getElem?_map,List.getElem?_eq_getElem h2];rfl
theorem apa {L:List Lk} {N:Nat} (h:Ŋ L N) (ho:ĸ L N=true):Pot L (gv (solP L N))∧gv (solP L N) 0=0:=by
 have h2:=h.n60;have h1:=h.n1;obtain⟨p,hp⟩:=(Ŝ h.links (by omega)).1 ho;refine⟨fun u v m hl=>?_,by rw[Pj (by omega) (by omega)]; omega⟩;have hr:=h.inr _ hl
 have hlen:(Į L N).length=N:=by unfold Į; rw[ķ,þ]
 have hu:gv (Į L N) u≤0:=(XR h.links (by omega) ho _ (List.mem_of_getElem? (Xh (by omega)))).2;have:=(Bz h.links (by omega) hp).pot h.inr hl (by show gv (Į L N) u≠Ł; unfold Ł; omega);have e1:=Pj (L:=L) hr.1.1 hr.1.2;have e2:=Pj (L:=L) hr.2.1 hr.2.2;dsimp only at e1 e2;have e:gv (Į L N) v≤gv (Į L N) u+m:=this;omega
section
variable {B:ß} (h:afZ B)
include h
end
def TH (N:Nat) (g:Int→Int):List Int:=(List.range N).map fun(v:Nat)=>g v
def C0 (N:Nat) (f:Int→Int→Int):List (List Int):=(List.range N).map fun(u:Nat)=>TH N (f u)
section
variable {N:Nat} {ρ:Type}
def apk (g:Int→Int):(TH N g).length=N:=by simp[TH]
def ao6 (f:Int→Int→Int):(C0 N f).length=N:=by simp[C0]
def pp (g:Int→Int):ô (TH N g)=(N:Int):=by unfold ô; rw[apk]
def we (f:Int→Int→Int):ô (C0 N f)=(N:Int):=by unfold ô; rw[ao6]
def aiA (g:Int→Int) {v:Int} (h0:0≤v) (h1:v<N):(TH N g)[v.toNat]?=some (g v):=by
 unfold TH;rw[List.getElem?_map,List.getElem?_range (by omega),Option.map_some,show((v.toNat:Nat):Int)=v by omega]
def ait (f:Int→Int→Int) {u:Int} (h0:0≤u) (h1:u<N):(C0 N f)[u.toNat]?=some (TH N (f u)):=by
 unfold C0;rw[List.getElem?_map,List.getElem?_range (by omega),Option.map_some,show((u.toNat:Nat):Int)=u by omega]
def rZ (f:Int→Int→Int) {u:Int} (h0:0≤u) (h1:u<N) (K:List Int→Option ρ):Ď (C0 N f) u.toNat K=K (TH N (f u)):=pq (ait f h0 h1) K
def nH (g:Int→Int) {v:Int} (h0:0≤v) (h1:v<N) (K:Int→Option ρ):Ď (TH N g) v.toNat K=K (g v):=pq (aiA g h0 h1) K
def XV {g g':Int→Int} (h:∀v:Int,0≤v→v<N→g v=g' v):TH N g=TH N g':=by
 unfold TH;refine List.map_congr_left fun v hv=>?_;have:=List.mem_range.1 hv;exact h v (by omega) (by omega)
def tm {f f':Int→Int→Int} (h:∀u v:Int,0≤u→u<N→0≤v→v<N→f u v=f' u v):C0 N f=C0 N f':=by
 unfold C0;refine List.map_congr_left fun u hu=>?_;have:=List.mem_range.1 hu;exact XV fun v h0 h1=>h u v (by omega) (by omega) h0 h1
def alQ {α:Type} (F:Nat→α) (N i:Nat) (x:α):((List.range N).map F).set i x=(List.range N).map fun j=>if j=i then x else F j:=by
 refine List.ext_getElem? fun j=>?_;rw[gg,gd,gd];rcases dG j N with hj|hj
 ·rw[fe hj]
  by_cases h:i=j
  ·subst h;rw[if_pos rfl,if_pos (by simpa using hj)];simp
  ·rw[if_neg h];simp[Ne.symm h]
 ·rw[f0 (l:=List.range N) (by simpa using hj)]
  by_cases h:i=j
  ·subst h;rw[if_pos rfl,if_neg (by simp; omega)];rfl
  ·rw[if_neg h];rfl
def agb (g:Int→Int) {v:Int} (h0:0≤v) (x:Int):(TH N g).set v.toNat x=TH N fun b=>if b=v then x else g b:=by
 unfold TH;rw[alQ];refine List.map_congr_left fun j _=>?_
 by_cases h:j=v.toNat
 ·rw[if_pos h]; exact(if_pos (by omega)).symm
 ·rw[if_neg h]; exact(if_neg (by omega)).symm
def alP (f:Int→Int→Int) {u v:Int} (h0:0≤u) (h1:0≤v) (x:Int):(C0 N f).set u.toNat ((TH N (f u)).set v.toNat x)=C0 N fun a b=>if a=u∧b=v then x else f a b:=by
 rw[agb _ h1];unfold C0;rw[alQ];refine List.map_congr_left fun j _=>?_
 by_cases h:j=u.toNat
 ·have hj:(j:Int)=u:=by omega
  rw[if_pos h,hj];congr 1;funext b
  by_cases hb:b=v<;>simp[hb]
 ·rw[if_neg h];congr 1;funext b;exact(if_neg (by omega)).symm
end
inductive WI (L:List Lk) (k u:Int):Int→Int→Prop
 |nil:WI L k u u 0
 |one {v m:Int}:(u,v,m)∈L→WI L k u v m
 |step {w v d m:Int}:WI L k u w d→0≤w→w<k→(w,v,m)∈L→WI L k u v (d+m)
section
variable {L:List Lk} {N:Nat} {k u:Int}
def WI.mono {k':Int} (hk:k≤k') {v d:Int} (h:WI L k u v d):WI L k' u v d:=by
 induction h with
 |nil=>exact .nil
 |one h=>exact .one h
 |step _ h0 h1 h2 ih=>exact ih.step h0 (by omega) h2
def WI.app {w v d e:Int} (h1:WI L k u w d) (h2:WI L k w v e) (h0:0≤w) (hk:w<k):WI L k u v (d+e):=by
 induction h2 with
 |nil=>rw[gn]; exact h1
 |one h=>exact h1.step h0 hk h
 | @step x v e m _ g0 g1 g2 ih =>
  have:=ih.step g0 g1 g2;rw[Int.add_assoc] at this;exact this
def WI.wl {v d:Int} (h:WI L k u v d):∃vs,Wl L (fun x=>x=u) vs v d:=by
 induction h with
 |nil=>exact⟨[],.nil rfl⟩
 | @one v m h =>
  have:=Wl.step (Wl.nil (L:=L) (S:=fun x=>x=u) rfl) h;rw[ig] at this;exact⟨_,this⟩
 |step _ _ _ h2 ih =>
  obtain⟨vs,h⟩:=ih;exact⟨_,h.step h2⟩
def WI.of_wl (hL:InR L N) (hk:(N:Int)≤k) {vs:List Int} {v d:Int} (h:Wl L (fun x=>x=u) vs v d):WI L k u v d:=by
 induction h with
 |nil h =>
  obtain rfl:=h;exact .nil
 | @step vs w v m d _ h2 ih =>
  have:=(hL _ h2).1;exact ih.step this.1 (by dsimp only at this; omega) h2
def WI.of_wk (hL:InR L N) (hk:(N:Int)≤k) {n:Nat} {v d:Int} (h:Wk L v n u d):WI L k u v d:=by
 obtain⟨vs,_,h⟩:=h.wl;exact .of_wl hL hk h
def Wl.shorten {S:Int→Prop} {vs:List Int} {v d:Int} (h:Wl L S vs v d):∃vs' d',Wl L S vs' v d'∧(v::vs').Nodup:=by
 have h1:∀{vs:List Int} {v d:Int},Wl L S vs v d→Wl (L.map fun l=>(l.1,l.2.1,0)) S vs v 0:=fun h=>by
  induction h with
  |nil h=>exact .nil h
  | @step vs w v m d _ h2 ih =>
   have:=ih.step (v:=v) (m:=0) (dZ.2 ⟨_,h2,rfl⟩);exact this
 have h2:∀{vs:List Int} {v d:Int},Wl (L.map fun l=>(l.1,l.2.1,0)) S vs v d→∃d',Wl L S vs v d':=fun h=>by
  induction h with
  |nil h=>exact⟨0,.nil h⟩
  | @step vs w v m d _ h2 ih =>
   obtain⟨d',h⟩:=ih;obtain⟨l,hl,e⟩:=dZ.1 h2;obtain⟨a,b,c⟩:=l;simp only[Prod.mk.injEq] at e;obtain⟨rfl,rfl,rfl⟩:=e;exact⟨_,h.step hl⟩
 obtain⟨vs',d',g1,_,g3⟩:=(h1 h).simple (p:=fun _=>0) (fun a b m hm=>by
  obtain⟨l,_,e⟩:=List.mem_map.1 hm;simp only[Prod.mk.injEq] at e;dsimp only
  omega)
 obtain⟨d'',g4⟩:=h2 g1;exact⟨vs',d'',g4,g3⟩
def aj3 (L:List Lk) (k u v:Int):List Lk:=L.filter fun l=>(l.1==u||(decide (0≤l.1)&&decide (l.1<k)))&&(l.2.1==v||(decide (0≤l.2.1)&&decide (l.2.1<k)))
def uq {v:Int} {l:Lk}:l∈aj3 L k u v↔l∈L∧(l.1=u∨(0≤l.1∧l.1<k))∧(l.2.1=v∨(0≤l.2.1∧l.2.1<k)):=by
 unfold aj3;rw[List.mem_filter];simp
def WI.rest (v:Int) {w d:Int} (h:WI L k u w d):(w=v∨(0≤w∧w<k))→∃vs,Wl (aj3 L k u v) (fun x=>x=u) vs w d:=by
 induction h with
 |nil=>exact fun _=>⟨[],.nil rfl⟩
 | @one w m h =>
  intro hw;have:=Wl.step (Wl.nil (L:=aj3 L k u v) (S:=fun x=>x=u) rfl) (uq.2 ⟨h,.inl rfl,hw⟩);rw[ig] at this;exact⟨_,this⟩
 | @step x w d m _ h0 h1 h2 ih =>
  intro hw;obtain⟨vs,h⟩:=ih (.inr ⟨h0,h1⟩);exact⟨_,h.step (uq.2 ⟨h2,.inr ⟨h0,h1⟩,hw⟩)⟩
def WI.of_rest {v:Int} {vs:List Int} {w d:Int} (h:Wl (aj3 L k u v) (fun x=>x=u) vs w d):v∉vs→WI L k u w d:=by
 induction h with
 |nil h =>
  obtain rfl:=h;exact fun _=>.nil
 | @step vs x w m d h1 h2 ih =>
  intro hv;obtain⟨g1,g2,g3⟩:=uq.1 h2;have ih':=ih fun h=>hv (by simp[h]);have hxv:x≠v:=fun e=>hv (by simp[e])
  cases h1 with
  |nil h =>
   obtain rfl:=h;rw[ig];exact .one g1
  |step h3 h4 =>
   obtain⟨_,_,g4⟩:=uq.1 h4;rcases g4 with g4|g4
   ·exact absurd g4 hxv
   ·exact ih'.step g4.1 g4.2 g1
def WI.high (hS:Ŋ L N) {v d:Int} (hu:0≤u∧u<N) (h:WI L k u v d):∃d',WI L k u v d'∧d'≤270215977642229760:=by
 have hn:=hS.n60;obtain⟨vs,hw⟩:=h.rest v (.inl rfl);obtain⟨vs',d',h1,h2⟩:=hw.shorten;have hin:InR (aj3 L k u v) N:=fun l hl=>hS.inr l (uq.1 hl).1;have hlen:=h1.short hin (fun w hw=>by rw[hw]; exact hu) h2;have hhi:=h1.high (M:=4503599627370496) fun l hl=>(hS.most l (uq.1 hl).1).2;refine⟨d',.of_rest h1 (f8.1 h2).1,?_⟩;omega
def akq (L:List Lk) (k:Int):List Lk:=L.filter fun l=>decide (l.1<k)&&decide (l.2.1<k)
def aaP {l:Lk}:l∈akq L k↔l∈L∧l.1<k∧l.2.1<k:=by
 unfold akq;rw[List.mem_filter];simp
def aiZ (hS:Ŋ L N):Ŋ (akq L k) N:=hS.sub (fun l hl=>(aaP.1 hl).1) (dP _ _)
def WI.of_low (hS:Ŋ L N) {v d:Int} {n:Nat} (h:Wk (akq L k) v n u d):WI L k u v d:=by
 obtain⟨vs,_,hw⟩:=h.wl;clear h;rename_i hlen;clear hlen
 induction hw with
 |nil h =>
  obtain rfl:=h;exact .nil
 | @step vs w v m d _ h2 ih =>
  obtain⟨g1,g2,g3⟩:=aaP.1 h2;have:=(hS.inr _ g1).1;exact ih.step this.1 g2 g1
def apG (hS:Ŋ L N) (hc:∀v d:Int,0≤v→v<N→WI L k v v d→0≤d):ĸ (akq L k) N=true:=by
 cases ho:ĸ (akq L k) N with
 |true=>rfl
 |false =>
  obtain⟨n,v,d,_,_,h3,h4,h5⟩:=Wy (aiZ hS) ho;have:=hc v d h3.1 h3.2 (.of_low hS h4);omega
def WI.low (hS:Ŋ L N) (hc:∀v d:Int,0≤v→v<N→WI L k v v d→0≤d) {v d:Int} (h:WI L k u v d) : -2314850208468434944≤d:=by
 have hn:=hS.n60;have ho:=apG hS hc;have hs:=aiZ (k:=k) hS;have hbd:=XR hs.links (by omega) ho;obtain⟨hp,_⟩:=apa hs ho
 let p:Int→Int:=fun v=>if 0≤v∧v<N then gv (Į (akq L k) N) v else 0
 have hlen:(Į (akq L k) N).length=N:=by unfold Į; rw[ķ,þ]
 have hpb:∀v,-2305843009213693952≤p v∧p v≤0:=fun v=>by
  show -2305843009213693952≤(if 0≤v∧v<N then gv (Į (akq L k) N) v else 0)∧(if 0≤v∧v<N then gv (Į (akq L k) N) v else 0)≤0
  split
  ·rename_i hv;exact hbd _ (dl (Xh (by omega)))
  ·omega
 have hpp:∀a b m,(a,b,m)∈akq L k→p b≤p a+m:=fun a b m hl=>by
  have hr:=hs.inr _ hl;dsimp only at hr;have:=hp a b m hl;rw[Pj hr.1.1 hr.1.2,Pj hr.2.1 hr.2.2] at this;show(if 0≤b∧b<N then gv (Į (akq L k) N) b else 0)≤(if 0≤a∧a<N then gv (Į (akq L k) N) a else 0)+m;rw[if_pos hr.1,if_pos hr.2];omega
 have key:∀{v d:Int},WI L k u v d→(v<k→p v-4503599627370496≤d)∧-2314850208468434944≤d:=fun {v d} h=>by
  induction h with
  |nil=>have:=hpb u; exact⟨fun _=>by omega,by omega⟩
  | @one v m h =>
   have:=hpb v;have:=(hS.most _ h).1;dsimp only at this;exact⟨fun _=>by omega,by omega⟩
  | @step w v d m _ h0 h1 h2 ih =>
   have hm:=(hS.most _ h2).1;dsimp only at hm;have hi:=ih.1 h1;have hw:=hpb w;refine⟨fun hv=>?_,by omega⟩;have:=hpp w v m (aaP.2 ⟨h2,h1,hv⟩);omega
 exact(key h).2
def lkF (f:Int→Int→Int) (l:Lk):Int→Int→Int:=fun a b=>if a=l.1∧b=l.2.1 then min (f l.1 l.2.1) l.2.2 else f a b
def ahD (a b:Int):Int:=if a=b then 0 else Ł
def upF (f:Int→Int→Int) (k:Int):Int→Int→Int:=fun a b=>if f a k=Ł then f a b else if f k b=Ł then f a b else min (f a b) (f a k+f k b)
def fw (L:List Lk):Nat→Int→Int→Int
 |0=>L.foldl lkF ahD
 |k+1=>upF (fw L k) k
def Xn (a b:Int):∀(M:List Lk) (f:Int→Int→Int),(M.foldl lkF f) a b≤f a b∧(∀m,(a,b,m)∈M→(M.foldl lkF f) a b≤m)∧((M.foldl lkF f) a b=f a b∨∃m,(a,b,m)∈M∧(M.foldl lkF f) a b=m)
 |[],f=>⟨dR _,fun _ h=>by simp at h,.inl rfl⟩
 |l::M,f=>by
  rw[f5];obtain⟨i1,i2,i3⟩:=Xn a b M (lkF f l)
  have key:lkF f l a b≤f a b∧((a=l.1∧b=l.2.1)→lkF f l a b≤l.2.2)∧(lkF f l a b=f a b∨((a=l.1∧b=l.2.1)∧lkF f l a b=l.2.2)):=by
   unfold lkF
   by_cases h:a=l.1∧b=l.2.1
   ·rw[if_pos h,h.1,h.2];refine⟨by omega,fun _=>by omega,?_⟩
    by_cases hc:f l.1 l.2.1≤l.2.2
    ·exact .inl (by omega)
    ·exact .inr ⟨⟨rfl,rfl⟩,by omega⟩
   ·rw[if_neg h];exact⟨dR _,fun h'=>absurd h' h,.inl rfl⟩
  obtain⟨k1,k2,k3⟩:=key;refine⟨by omega,fun m hm=>?_,?_⟩
  ·rcases dm.1 hm with h|h
   ·subst h;have:=k2 ⟨rfl,rfl⟩;dsimp only at this;omega
   ·exact i2 m h
  ·rcases i3 with h|⟨m,h,e⟩
   ·rcases k3 with h'|⟨⟨h1,h2⟩,h'⟩
    ·exact .inl (h.trans h')
    ·exact .inr ⟨l.2.2,by rw[h1,h2]; simp,h.trans h'⟩
   ·exact .inr ⟨m,by simp[h],e⟩
structure Tab (L:List Lk) (N:Nat) (k:Nat) (f:Int→Int→Int):Prop where
 att:∀a b:Int,0≤a→a<N→0≤b→b<N→f a b≠Ł→WI L k a b (f a b)
 le:∀a b s:Int,0≤a→a<N→0≤b→b<N→WI L k a b s→f a b≤s∧f a b≠Ł
 diag:∀a:Int,0≤a→a<N→f a a=0
def Tab.closed {f:Int→Int→Int} {k:Nat} (h:Tab L N k f):∀v d:Int,0≤v→v<N→WI L k v v d→0≤d:=fun v d h0 h1 hw=>by
 have:=(h.le v v d h0 h1 h0 h1 hw).1;rw[h.diag v h0 h1] at this;exact this
def Tab.bd (hS:Ŋ L N) {f:Int→Int→Int} {k:Nat} (h:Tab L N k f) {a b:Int} (ha:0≤a∧a<N) (hb:0≤b∧b<N) (hf:f a b≠Ł) : -2314850208468434944≤f a b∧f a b≤270215977642229760:=by
 have hw:=h.att a b ha.1 ha.2 hb.1 hb.2 hf;obtain⟨d,hd,hle⟩:=hw.high hS ha;have:=(h.le a b d ha.1 ha.2 hb.1 hb.2 hd).1;exact⟨hw.low hS h.closed,by omega⟩
def ao5 (hS:Ŋ L N):Tab L N 0 (fw L 0):=by
 have key:∀a b,(fw L 0 a b≤ahD a b)∧(∀m,(a,b,m)∈L→fw L 0 a b≤m)∧(fw L 0 a b=ahD a b∨∃m,(a,b,m)∈L∧fw L 0 a b=m):=fun a b=>Xn a b L ahD;refine⟨fun a b ha ha' hb hb' hf=>?_,fun a b s ha ha' hb hb' hw=>?_,fun a ha ha'=>?_⟩
 ·rcases(key a b).2.2 with h|⟨m,h,e⟩
  ·rw[h] at hf ⊢;unfold ahD at hf ⊢
   by_cases hab:a=b
   ·subst hab; rw[if_pos rfl]; exact .nil
   ·rw[if_neg hab] at hf; exact absurd rfl hf
  ·rw[e]; exact .one h
 ·have hs:fw L 0 a b≤s∧s≤4503599627370496:=by
   cases hw with
   |nil =>
    have:=(key a a).1;unfold ahD at this;rw[if_pos rfl] at this;omega
   |one h=>exact⟨(key a b).2.1 _ h,(hS.most _ h).2⟩
   |step _ h0 h1 _=>omega
  refine⟨hs.1,fun hF=>?_⟩;rw[hF] at hs;unfold Ł at hs;omega
 ·rcases(key a a).2.2 with h|⟨m,h,e⟩
  ·rw[h]; unfold ahD; rw[if_pos rfl]
  ·exact absurd rfl (hS.noloop _ h)
def ais (hS:Ŋ L N) {k:Nat} (hk:k<N) {f:Int→Int→Int} (h:Tab L N k f) :
 (∀a b:Int,0≤a→a<N→0≤b→b<N→upF f k a b≠Ł→WI L ((k+1:Nat):Int) a b (upF f k a b)) ∧
 (∀a b s:Int,0≤a→a<N→0≤b→b<N→WI L ((k+1:Nat):Int) a b s→upF f k a b≤s∧upF f k a b≠Ł) ∧
 (∀a:Int,0≤a→a<N→upF f k a a≤0):=by
 have hk0:(0:Int)≤k∧(k:Int)<N:=by omega
 -- the element that a pass gives
 have cases3:∀a b:Int,upF f k a b=f a b∨(f a k≠Ł∧f k b≠Ł∧upF f k a b=f a k+f k b):=fun a b=>by
  unfold upF
  by_cases h1:f a k=Ł
  ·rw[if_pos h1]; exact .inl rfl
  rw[if_neg h1]
  by_cases h2:f k b=Ł
  ·rw[if_pos h2]; exact .inl rfl
  rw[if_neg h2]
  by_cases h3:f a b≤f a k+f k b
  ·exact .inl (by omega)
  ·exact .inr ⟨h1,h2,by omega⟩
 have lim:∀a b:Int,0≤a→a<N→0≤b→b<N→f a b≤Ł:=fun a b h0 h1 h2 h3=>by
  by_cases hf:f a b=Ł
  ·omega
  ·have:=h.bd hS ⟨h0,h1⟩ ⟨h2,h3⟩ hf; unfold Ł; omega
 have upper:∀a b:Int,upF f k a b≤f a b∧(f a k≠Ł→f k b≠Ł→upF f k a b≤f a k+f k b):=fun a b=>by
  unfold upF
  by_cases h1:f a k=Ł
  ·rw[if_pos h1]; exact⟨dR _,fun h'=>absurd h1 h'⟩
  rw[if_neg h1]
  by_cases h2:f k b=Ł
  ·rw[if_pos h2]; exact⟨dR _,fun _ h'=>absurd h2 h'⟩
  rw[if_neg h2];exact⟨by omega,fun _ _=>by omega⟩
 have B:=fun(a b:Int) (h0:0≤a) (h1:a<N) (h2:0≤b) (h3:b<N) (hf:f a b≠Ł)=>h.bd hS ⟨h0,h1⟩ ⟨h2,h3⟩ hf
 -- if there is a walk, the element is told
 have ne:∀a b:Int,0≤a→a<N→0≤b→b<N→(f a b≠Ł∨(f a k≠Ł∧f k b≠Ł))→upF f k a b≠Ł:=fun a b h0 h1 h2 h3 hc hF=>by
  have hu:=upper a b;rcases hc with hc|⟨hc1,hc2⟩
  ·have:=B a b h0 h1 h2 h3 hc;rw[hF] at hu;unfold Ł at hu;omega
  ·have b1:=B a k h0 h1 hk0.1 hk0.2 hc1;have b2:=B k b hk0.1 hk0.2 h2 h3 hc2;have:=hu.2 hc1 hc2;rw[hF] at this;unfold Ł at this;omega
 have colk:∀a:Int,0≤a→a<N→upF f k a k=f a k:=fun a h0 h1=>by
  have hd:=h.diag k hk0.1 hk0.2;unfold upF;rw[hd]
  split
  ·rfl
  ·rw[if_neg (by decide)]; omega
 refine⟨fun a b h0 h1 h2 h3 hf=>?_,fun a b s h0 h1 h2 h3 hw=>?_,fun a h0 h1=>?_⟩
 ·rcases cases3 a b with e|⟨e1,e2,e⟩
  ·rw[e] at hf ⊢;exact(h.att a b h0 h1 h2 h3 hf).mono (by omega)
  ·rw[e];exact((h.att a k h0 h1 hk0.1 hk0.2 e1).mono (by omega)).app ((h.att k b hk0.1 hk0.2 h2 h3 e2).mono (by omega)) hk0.1 (by omega)
 ·-- by the walk
  have main:∀{v s:Int},WI L ((k+1:Nat):Int) a v s→(0≤v∧v<N)→upF f k a v≤s∧(f a v≠Ł∨(f a k≠Ł∧f k v≠Ł)):=fun {v s} hw=>by
   induction hw with
   |nil =>
    intro hv;have:=h.le a a 0 hv.1 hv.2 hv.1 hv.2 .nil;exact⟨by have:=(upper a a).1; omega,.inl this.2⟩
   | @one v m hl =>
    intro hv;have:=h.le a v m h0 h1 hv.1 hv.2 (.one hl);exact⟨by have:=(upper a v).1; omega,.inl this.2⟩
   | @step w v d m _ g0 g1 g2 ih =>
    intro hv;have hwr:=(hS.inr _ g2).1;dsimp only at hwr;obtain⟨i1,i2⟩:=ih hwr;have hone:=h.le w v m hwr.1 hwr.2 hv.1 hv.2 (.one g2)
    by_cases hwk:w=k
    ·subst hwk;rw[colk a h0 h1] at i1
     have hak:f a k≠Ł:=by
      rcases i2 with i2|i2
      ·exact i2
      ·exact i2.1
     have:=(upper a v).2 hak hone.2;exact⟨by omega,.inr ⟨hak,hone.2⟩⟩
    ·have hlt:w<k:=by push_cast at g1; omega
     -- one link î of a walk by nodes below k
     have ext:∀x:Int,0≤x→x<N→f x w≠Ł→f x v≤f x w+m∧f x v≠Ł:=fun x hx0 hx1 hf =>
      h.le x v _ hx0 hx1 hv.1 hv.2 ((h.att x w hx0 hx1 hwr.1 hwr.2 hf).step hwr.1 hlt g2)
     rcases cases3 a w with e|⟨e1,e2,e⟩
     ·have hne:f a w≠Ł:=by
       rcases i2 with i2|⟨i2,i3⟩
       ·exact i2
       ·intro hF;rw[hF] at e;exact ne a w h0 h1 hwr.1 hwr.2 (.inr ⟨i2,i3⟩) e
      have:=ext a h0 h1 hne;exact⟨by have:=(upper a v).1; omega,.inl this.2⟩
     ·have:=ext k hk0.1 hk0.2 e2;have:=(upper a v).2 e1 this.2;exact⟨by omega,.inr ⟨e1,(ext k hk0.1 hk0.2 e2).2⟩⟩
  obtain⟨m1,m2⟩:=main hw ⟨h2,h3⟩;exact⟨m1,ne a b h0 h1 h2 h3 m2⟩
 ·have:=(upper a a).1;have:=h.diag a h0 h1;omega
def wi_pot {p:Int→Int} (hp:Pot L p) {v d:Int} (h:WI L k u v d):p v≤p u+d:=by
 induction h with
 |nil=>omega
 |one h=>exact hp _ _ _ h
 |step _ _ _ h2 ih=>have:=hp _ _ _ h2; omega
def fw_all (hS:Ŋ L N):(∃k:Nat,k<N∧Tab L N k (fw L k)∧(∃a:Int,0≤a∧a<N∧fw L (k+1) a a<0)∧∀j,j≤k→Tab L N j (fw L j))∨∀k:Nat,k≤N→Tab L N k (fw L k):=by
 have:∀k:Nat,k≤N→(∃j:Nat,j<k∧Tab L N j (fw L j)∧(∃a:Int,0≤a∧a<N∧fw L (j+1) a a<0)∧∀i,i≤j→Tab L N i (fw L i))∨∀i,i≤k→Tab L N i (fw L i):=by
  intro k
  induction k with
  |zero=>exact fun _=>.inr fun i hi=>by have h0:i=0:=(by omega); subst h0; exact ao5 hS
  |succ k ih =>
   intro hk;rcases ih (by omega) with⟨j,h1,h2⟩|h
   ·exact .inl ⟨j,by omega,h2⟩
   ·have hT:=h k (dg _);obtain⟨s1,s2,s3⟩:=ais hS (by omega) hT
    by_cases hb:∃a:Int,0≤a∧a<N∧fw L (k+1) a a<0
    ·exact .inl ⟨k,by omega,hT,hb,h⟩
    ·refine .inr fun i hi=>?_;rcases Nat.lt_or_eq_of_le hi with hi|rfl
     ·exact h i (by omega)
     ·refine⟨s1,s2,fun a h0 h1=>?_⟩;have:=s3 a h0 h1;rcases gT (fw L (k+1) a a) 0 with q|q
      ·exact absurd ⟨a,h0,h1,q⟩ hb
      ·have e:fw L (k+1) a a=upF (fw L k) k a a:=rfl;omega
 rcases this N (dg _) with⟨j,h1,h2⟩|h
 ·exact .inl ⟨j,h1,h2⟩
 ·exact .inr h
def apV (hS:Ŋ L N) {j:Nat} (hj:j<N) (hT:Tab L N j (fw L j)) (hb:∃a:Int,0≤a∧a<N∧fw L (j+1) a a<0):ĸ L N=false:=by
 have hn:=hS.n60;obtain⟨a,h0,h1,h2⟩:=hb;rw[Bool.eq_false_iff];intro ho;obtain⟨p,hp⟩:=(Ŝ hS.links (by omega)).1 ho;obtain⟨s1,_,_⟩:=ais hS hj hT;have e:fw L (j+1) a a=upF (fw L j) j a a:=rfl;rw[e] at h2;have:=wi_pot hp (s1 a a h0 h1 h0 h1 (by unfold Ł; omega));omega
def ana (hS:Ŋ L N) (hT:Tab L N N (fw L N)):ĸ L N=true:=by
 cases ho:ĸ L N with
 |true=>rfl
 |false =>
  obtain⟨n,v,d,_,_,h3,h4,h5⟩:=Wy hS ho;have:=hT.closed v d h3.1 h3.2 (.of_wk hS.inr (dR _) h4);omega
def fw_dst (hS:Ŋ L N) (ht:JH L N) (hT:Tab L N N (fw L N)) {a b:Int} (ha:0≤a∧a<N) (hb:0≤b∧b<N):fw L N a b=dst L N a b:=by
 have ho:=ana hS hT;obtain⟨vs,hw⟩:=aba hS ht ho ha hb;obtain⟨h1,h2⟩:=hT.le a b _ ha.1 ha.2 hb.1 hb.2 (.of_wl hS.inr (dR _) hw);obtain⟨vs',hw'⟩:=(hT.att a b ha.1 ha.2 hb.1 hb.2 h2).wl;have:=ahF hS ho ha hw';omega
end
section
variable {ρ:Type} {L:List Lk} {N:Nat}
def ao3 (hN:N≤60) {u:Int} (hu:0≤u∧u<N) (K:List Int→Option ρ) :
 É (fun(v7:Int×List Int) kk10=>l8 (N:Int) u v7.1 v7.2 (fun u8 u9=>kk10 (u8,u9)) K) ((0:Int),List.replicate N (0:Int))=K (TH N (ahD u)):=by
 refine ë (List.replicate N ()) (fun i=>TH N fun b=>if b<i then ahD u b else 0) _ ?_ (fun i a hi ha kn=>?_) (fun kn=>?_)
 ·unfold TH;refine List.ext_getElem? fun j=>?_;rw[List.getElem?_map,List.getElem?_replicate]
  by_cases hj:j<N
  ·rw[fe hj,if_pos hj];simp only[d9];rw[if_neg (by omega)]
  ·rw[f0 (by simpa using hj),if_neg hj];rfl
 ·try dsimp only
  unfold l8;rw[List.length_replicate] at hi;have e0:Ł=(1152921504606846976:Int):=rfl;rw[Õ (decide_eq_true (by omega)),pp,Ĵ (by omega) (by omega),nH _ (by omega) (by omega),agb _ (by omega)]
  by_cases h:u=(i:Int)
  ·rw[Õ (beq_iff_eq.2 h),pp,Ĵ (by omega) (by omega),nH _ (by omega) (by omega),Ò (by omega) (by omega),agb _ (by omega)];congr 1;refine XV fun v h0 h1=>?_
   by_cases hv:v=(i:Int)
   ·rw[if_pos hv,if_pos (by push_cast; omega)]; unfold ahD; rw[if_pos (by omega)]
   ·rw[if_neg hv,if_neg hv]
    by_cases h2:v<(i:Int)
    ·rw[if_pos h2,if_pos (by push_cast; omega)]
    ·rw[if_neg h2,if_neg (by push_cast; omega)]
  ·rw[Ð (beq_eq_false_iff_ne.2 h),Ò (by omega) (by omega)];congr 1;refine XV fun v h0 h1=>?_
   by_cases hv:v=(i:Int)
   ·rw[if_pos hv,if_pos (by push_cast; omega)]; unfold ahD; rw[if_neg (by omega),e0]
   ·rw[if_neg hv]
    by_cases h2:v<(i:Int)
    ·rw[if_pos h2,if_pos (by push_cast; omega)]
    ·rw[if_neg h2,if_neg (by push_cast; omega)]
 ·try dsimp only
  unfold l8;rw[List.length_replicate,Ð (decide_eq_false (by omega))];congr 1;exact XV fun v h0 h1=>if_pos h1
def ao4 (hN:N≤60) (K:List (List Int)→Option ρ) :
 É (fun(v74:Int×List (List Int)) kk77=>l9 (N:Int) v74.1 v74.2 (fun u75 u76=>kk77 (u75,u76)) K) ((0:Int),[])=K (C0 N ahD):=by
 refine ë (List.replicate N ()) (fun i=>(List.range i).map fun(u:Nat)=>TH N (ahD u)) _ rfl (fun i a hi ha kn=>?_) (fun kn=>?_)
 ·try dsimp only
  unfold l9;rw[List.length_replicate] at hi;rw[Õ (decide_eq_true (by omega)),Ĥ (by simp[â]; omega),Int.toNat_natCast];refine(ao3 hN ⟨by omega,by omega⟩ _).trans ?_;rw[Ĥ (Ô (by simp only[List.length_map,List.length_range,List.length_singleton]; omega)),Ò (by omega) (by omega)];congr 2;rw[List.range_succ,List.map_append];rfl
 ·try dsimp only
  unfold l9;rw[List.length_replicate,Ð (decide_eq_false (by omega))];rfl
def ao2 (hS:Ŋ L N) (K:List (List Int)→Option ρ) :
 É (fun(v70:Int×List (List Int)) kk73=>l7 L v70.1 v70.2 (fun u71 u72=>kk73 (u71,u72)) K) ((0:Int),C0 N ahD)=K (C0 N (fw L 0)):=by
 have hl3:=hS.len;refine ë L (fun i=>C0 N ((L.take i).foldl lkF ahD)) _ rfl (fun i l hi hl kn=>?_) (fun kn=>?_)
 ·try dsimp only
  unfold l7;have hr:=hS.inr l (List.mem_of_getElem? hl);obtain⟨⟨a0,a1⟩,b0,b1⟩:=hr;rw[Ñ hi,Ç hl];simp only[we,Ĵ a0 a1,rZ _ a0 a1,pp,Ĵ b0 b1,nH _ b0 b1];rw[Ê hi (by omega),alP _ a0 b0,take_succ hl,List.foldl_append];congr 2;refine tm fun u v _ _ _ _=>?_;simp only[List.foldl_cons,List.foldl_nil,lkF,tX]
 ·try dsimp only
  unfold l7;rw[Ü,List.take_length];rfl
def ao1 (hS:Ŋ L N) {k:Nat} (hk:k<N) {f:Int→Int→Int} (hT:Tab L N k f) {u:Int} (hu:0≤u∧u<N) (hne:f u k≠Ł) {g:Int→Int→Int} (hgk:∀b:Int,0≤b→b<N→g k b=f k b) (hgu:∀b:Int,0≤b→b<N→g u b=f u b) (K:List (List Int)→Option ρ) :
 É (fun(v45:Int×List (List Int)) kk48=>l5 (k:Int) u (N:Int) v45.1 v45.2 (fun u46 u47=>kk48 (u46,u47)) K) ((0:Int),C0 N g)=K (C0 N fun a b=>if a=u then upF f k a b else g a b):=by
 have hn:=hS.n60
 have hk0:(0:Int)≤k∧(k:Int)<N:=by omega
 have hdk:=hT.diag k hk0.1 hk0.2;have e0:Ł=(1152921504606846976:Int):=rfl
 have rowk:∀b:Int,upF f k k b=f k b:=fun b=>by
  unfold upF;rw[hdk];rw[if_neg (by decide)]
  split
  ·rfl
  ·omega
 have colk:upF f k u k=f u k:=by
  unfold upF;rw[if_neg hne,hdk,if_neg (by decide)];omega
 refine ë (List.replicate N ()) (fun i=>C0 N fun a b=>if a=u∧b<i then upF f k a b else g a b) _ ?_ (fun i a hi ha kn=>?_) (fun kn=>?_)
 ·exact tm fun a b _ _ hb _=>if_neg (by omega)
 ·try dsimp only
  unfold l5;rw[List.length_replicate] at hi
  have hi0:(0:Int)≤i∧(i:Int)<N:=by omega
  -- what lies in row k, and in row u at k
  have r1:(if (k:Int)=u∧(i:Int)<i then upF f k k i else g k i)=f k i:=by rw[if_neg (by omega)]; exact hgk i hi0.1 hi0.2
  have r2:(if u=u∧(i:Int)<i then upF f k u i else g u i)=f u i:=by rw[if_neg (by omega)]; exact hgu i hi0.1 hi0.2
  have r3:(if u=u∧(k:Int)<i then upF f k u k else g u k)=f u k:=by
   split
   ·exact colk
   ·exact hgu k hk0.1 hk0.2
  have step:∀x:Int,(fun(a b:Int)=>if a=u∧b=(i:Int) then x else if a=u∧b<(i:Int) then upF f k a b else g a b)=fun a b=>if a=u∧b<((i+1:Nat):Int) then(if b=(i:Int) then x else upF f k a b) else g a b:=fun x=>by
   funext a b
   by_cases h1:a=u
   ·by_cases h2:b=(i:Int)
    ·rw[if_pos ⟨h1,h2⟩,if_pos ⟨h1,by push_cast; omega⟩,if_pos h2]
    ·by_cases h3:b<(i:Int)
     ·rw[if_neg (fun h=>h2 h.2),if_pos ⟨h1,h3⟩,if_pos ⟨h1,by push_cast; omega⟩,if_neg h2]
     ·rw[if_neg (fun h=>h2 h.2),if_neg (fun h=>h3 h.2),if_neg (fun h=>by have:=h.2; push_cast at this; omega)]
   ·rw[if_neg (fun h=>h1 h.1),if_neg (fun h=>h1 h.1),if_neg (fun h=>h1 h.1)]
  rw[Õ (decide_eq_true hi0.2)];simp only[-eq_self,we,Ĵ hk0.1 hk0.2,rZ _ hk0.1 hk0.2,pp,Ĵ hi0.1 hi0.2,nH _ hi0.1 hi0.2,r1]
  by_cases h2:f k i=Ł
  ·rw[Ð (by rw[h2]; rfl),Ò (by omega) (by omega)];congr 2;refine tm fun a b ha _ hb _=>?_
   by_cases h3:a=u∧b<(i:Int)
   ·rw[if_pos h3,if_pos ⟨h3.1,by push_cast; omega⟩]
   ·rw[if_neg h3]
    by_cases h4:a=u∧b=(i:Int)
    ·rw[if_pos ⟨h4.1,by push_cast; omega⟩,h4.1,h4.2];unfold upF;rw[if_neg hne,if_pos h2];exact hgu i hi0.1 hi0.2
    ·rw[if_neg (fun h=>by have:=h.2; push_cast at this; omega)]
  ·have b1:=hT.bd hS hu hk0 hne;have b2:=hT.bd hS hk0 hi0 h2;rw[Õ (bne_iff_ne.2 h2)];simp only[-eq_self,we,Ĵ hu.1 hu.2,rZ _ hu.1 hu.2,pp,Ĵ hi0.1 hi0.2,nH _ hi0.1 hi0.2,Ĵ hk0.1 hk0.2,nH _ hk0.1 hk0.2,rZ _ hk0.1 hk0.2,r1,r2,r3];rw[Ò (by omega) (by omega)]
   try simp only[-eq_self,we,Ĵ hu.1 hu.2,rZ _ hu.1 hu.2,pp,Ĵ hi0.1 hi0.2,nH _ hi0.1 hi0.2]
   rw[Ò (by omega) (by omega),alP _ hu.1 hi0.1,step];congr 2;refine tm fun a b ha _ hb _=>?_
   by_cases h3:a=u∧b<((i+1:Nat):Int)
   ·rw[if_pos h3,if_pos h3]
    by_cases h4:b=(i:Int)
    ·rw[if_pos h4,h3.1,h4,tX];unfold upF;rw[if_neg hne,if_neg h2]
    ·rw[if_neg h4]
   ·rw[if_neg h3,if_neg h3]
 ·try dsimp only
  unfold l5;rw[List.length_replicate,Ð (decide_eq_false (by omega))];congr 1;refine tm fun a b _ _ _ hb=>?_
  by_cases h:a=u
  ·rw[if_pos ⟨h,hb⟩,if_pos h]
  ·rw[if_neg (fun q=>h q.1),if_neg h]
def air (hS:Ŋ L N) {k:Nat} (hk:k<N) {f:Int→Int→Int} (hT:Tab L N k f) (K:List (List Int)→Option ρ) :
 É (fun(v60:Int×List (List Int)) kk63=>l6 (k:Int) (N:Int) v60.1 v60.2 (fun u61 u62=>kk63 (u61,u62)) K) ((0:Int),C0 N f)=K (C0 N (upF f k)):=by
 have hn:=hS.n60
 have hk0:(0:Int)≤k∧(k:Int)<N:=by omega
 have hdk:=hT.diag k hk0.1 hk0.2
 have rowk:∀b:Int,upF f k k b=f k b:=fun b=>by
  unfold upF;rw[hdk];rw[if_neg (by decide)]
  split
  ·rfl
  ·omega
 refine ë (List.replicate N ()) (fun i=>C0 N fun a b=>if a<i then upF f k a b else f a b) _ ?_ (fun i a hi ha kn=>?_) (fun kn=>?_)
 ·exact tm fun a b ha _ _ _=>if_neg (by omega)
 ·try dsimp only
  unfold l6;rw[List.length_replicate] at hi
  have hi0:(0:Int)≤i∧(i:Int)<N:=by omega
  have r1:(if (i:Int)<i then upF f k i k else f i k)=f i k:=if_neg (by omega);rw[Õ (decide_eq_true hi0.2)];simp only[we,Ĵ hi0.1 hi0.2,rZ _ hi0.1 hi0.2,pp,Ĵ hk0.1 hk0.2,nH _ hk0.1 hk0.2,r1]
  by_cases h1:f i k=Ł
  ·rw[Õ (beq_iff_eq.2 h1),Ò (by omega) (by omega)];congr 2;refine tm fun a b ha _ hb _=>?_
   by_cases h2:a<(i:Int)
   ·rw[if_pos h2,if_pos (by push_cast; omega)]
   ·rw[if_neg h2]
    by_cases h3:a=(i:Int)
    ·rw[if_pos (by push_cast; omega),h3];unfold upF;rw[if_pos h1]
    ·rw[if_neg (by push_cast; omega)]
  ·rw[Ð (beq_eq_false_iff_ne.2 h1)];refine(ao1 hS hk hT hi0 h1 (fun b _ _=>?_) (fun b _ _=>if_neg (by omega)) _).trans ?_
   ·split
    ·exact rowk b
    ·rfl
   ·rw[Ò (by omega) (by omega)];congr 2;refine tm fun a b ha _ hb _=>?_
    by_cases h3:a=(i:Int)
    ·rw[if_pos h3,if_pos (by push_cast; omega)]
    ·rw[if_neg h3]
     by_cases h2:a<(i:Int)
     ·rw[if_pos h2,if_pos (by push_cast; omega)]
     ·rw[if_neg h2,if_neg (by push_cast; omega)]
 ·try dsimp only
  unfold l6;rw[List.length_replicate,Ð (decide_eq_false (by omega))];congr 1;exact tm fun a b _ ha _ _=>if_pos ha
def ao0 (hN:N≤60) (f:Int→Int→Int) (X Y:Option ρ) :
 É (fun(v57:Int) kk59=>i9 (N:Int) (C0 N f) v57 (fun u58=>kk59 u58) (fun _=>X) (fun _=>Y)) (0:Int)=if ((List.range N).any fun(a:Nat)=>decide (f a a<0)) then X else Y:=by
 refine Ĺ (List.range N) (fun a=>decide (f a a<0)) (fun _=>X) X Y (fun _=>rfl) (fun i a hi ha kn=>?_) (fun kn=>?_)
 ·try dsimp only
  unfold i9;rw[List.length_range] at hi
  have hia:a=i:=by rw[fe hi] at ha; exact(Option.some.inj ha).symm
  subst hia
  have hi0:(0:Int)≤a∧(a:Int)<N:=by omega
  rw[Õ (decide_eq_true hi0.2)];simp only[we,Ĵ hi0.1 hi0.2,rZ _ hi0.1 hi0.2,pp,nH _ hi0.1 hi0.2];rw[Ò (by omega) (by omega),ĥ]
 ·try dsimp only
  unfold i9;rw[List.length_range,Ð (decide_eq_false (by omega))]
def aqD (hS:Ŋ L N) (ht:JH L N):vK ((N:Int),L)=some (if ĸ L N then(C0 N (dst L N),true) else([],false)):=by
 have hn:=hS.n60;unfold vK Kr;dsimp only;refine(ao4 hn _).trans ?_;refine(ao2 hS _).trans ?_
 have anyOf:∀k:Nat,((List.range N).any fun(a:Nat)=>decide (fw L k a a<0))=true↔∃a:Int,0≤a∧a<N∧fw L k a a<0:=fun k=>by
  rw[fD];constructor
  ·rintro⟨a,h1,h2⟩;have:=fV.1 h1;exact⟨a,by omega,by omega,of_decide_eq_true h2⟩
  ·rintro⟨a,h0,h1,h2⟩;exact⟨a.toNat,fV.2 (by omega),decide_eq_true (by rw[show((a.toNat:Nat):Int)=a by omega]; exact h2)⟩
 rcases fw_all hS with⟨j,hj,hT,hb,hall⟩|hall
 ·rw[apV hS hj hT hb,if_neg (by simp)];refine Ĭ (fun v=>∃k:Nat,k≤j∧v=((k:Int),C0 N (fw L k))∧Tab L N k (fw L k)) (fun v=>N-v.1.toNat) ?_ ⟨0,by omega,rfl,hall 0 (by omega)⟩;rintro v ⟨k,hkj,rfl,hTk⟩;dsimp only
  have hL6:∀kn:Int×List (List Int)→Option (List (List Int)×Bool),j6 (N:Int) (k:Int) (C0 N (fw L k)) (fun u67 u68=>kn (u67,u68)) (fun z64=>some (([]:List (List Int)),z64.1)) (fun z65=>some (z65,true))=if ((List.range N).any fun(a:Nat)=>decide (fw L (k+1) a a<0)) then some ([],false) else kn ((k:Int)+1,C0 N (fw L (k+1))):=fun kn=>by
   unfold j6;rw[Õ (decide_eq_true (by omega))];refine(air hS (by omega) hTk _).trans ?_;have:=ao0 hn (upF (fw L k) k) (some (([]:List (List Int)),false)) (ck ((k:Int)+1) fun n56=>kn (n56,C0 N (upF (fw L k) k)));rw[Ò (by omega) (by omega)] at this;refine Eq.trans ?_ this;rw[Ò (by omega) (by omega)];congr 1
  rcases Nat.lt_or_eq_of_le hkj with hlt|rfl
  ·refine .inr ⟨(((k+1:Nat):Int),C0 N (fw L (k+1))),⟨k+1,hlt,rfl,hall (k+1) hlt⟩,by dsimp only; omega,fun kn=>?_⟩;have hd:=hall (k+1) hlt;rw[hL6 kn,if_neg]
   ·push_cast; rfl
   ·intro h;obtain⟨a,h0,h1,h2⟩:=(anyOf (k+1)).1 h;rw[hd.diag a h0 h1] at h2;omega
  ·refine .inl fun kn=>?_;rw[hL6 kn,if_pos ((anyOf (k+1)).2 hb)]
 ·have hT:=hall N (Nat.le_refl _);rw[ana hS hT,if_pos rfl];refine Ĭ (fun v=>∃k:Nat,k≤N∧v=((k:Int),C0 N (fw L k))) (fun v=>N-v.1.toNat) ?_ ⟨0,by omega,rfl⟩;rintro v ⟨k,hkj,rfl⟩;dsimp only;rcases Nat.lt_or_eq_of_le hkj with hlt|rfl
  ·have hd:=hall (k+1) hlt;refine .inr ⟨(((k+1:Nat):Int),C0 N (fw L (k+1))),⟨k+1,hlt,rfl⟩,by dsimp only; omega,fun kn=>?_⟩;unfold j6;rw[Õ (decide_eq_true (by omega))];refine(air hS hlt (hall k hkj) _).trans ?_;refine Ĭ (fun v=>∃a:Nat,a≤N∧v=(a:Int)) (fun v=>N-v.toNat) ?_ ⟨0,by omega,rfl⟩;rintro v ⟨a,ha,rfl⟩;rcases Nat.lt_or_eq_of_le ha with hl|rfl
   ·have ha0:(0:Int)≤a∧(a:Int)<N:=by omega
    refine .inr ⟨((a+1:Nat):Int),⟨a+1,hl,rfl⟩,by omega,fun kn'=>?_⟩;unfold i9;have hda:upF (fw L k) k a a=0:=hd.diag a ha0.1 ha0.2;rw[Õ (decide_eq_true ha0.2)];simp only[we,Ĵ ha0.1 ha0.2,rZ _ ha0.1 ha0.2,pp,nH _ ha0.1 ha0.2,hda];rw[Ð (by rfl),Ò (by omega) (by omega)];push_cast;rfl
   ·refine .inl fun kn'=>?_;unfold i9;rw[Ð (decide_eq_false (by omega)),Ò (by omega) (by omega)];push_cast;rfl
  ·refine .inl fun kn=>?_;unfold j6;rw[Ð (decide_eq_false (by omega))];refine congrArg _ (congrArg (·,true) ?_);exact tm fun a b h0 h1 h2 h3=>fw_dst hS ht hT ⟨h0,h1⟩ ⟨h2,h3⟩
end
def Bw (n lo hi:Int):ml n lo hi=some (inP n lo hi):=by
 unfold ml agF inP ige ile
 cases h:decide (lo≤n)<;>simp_all
def abE (n:Int):xx n=some (uh n):=by
 unfold xx Zb;rw[Bw]; rfl
def xL (s:Int×Int) (lo hi:Int):jT s lo hi=some (ku s lo hi):=by
 unfold jT zy ku ile
 cases decide (lo≤s.1)<;>cases decide (s.1≤s.2)<;>rfl
def asr {l:List Int} (hn:l.length≤1000000) (x:Int):O1 l x=some (l.contains x):=by
 unfold O1 Y7;refine Eq.trans (Ĺ l (fun a=>a==x) (fun _=>some true) (some true) (some false) (fun _=>rfl) (fun i a hi ha kn=>?_) (fun kn=>?_)) ?_
 ·try dsimp only
  unfold wA;rw[Ñ hi,Ç ha,Ê hi (by omega),ĥ]
 ·try dsimp only
  unfold wA;rw[Ü]
 ·have:l.any (fun a=>a==x)=l.contains x:=by
   rw[dX,fD,eQ];constructor
   ·rintro⟨a,ha,e⟩; rw[←eq_of_beq e]; exact ha
   ·intro h; exact⟨x,h,by simp⟩
  rw[this]
  cases l.contains x<;>rfl
def akt {a b:List Int} {i:Nat} {x:Int} (h:a[i]?=some x):é (a.take (i+1)) b=é (a.take i) b++if b.contains x then[] else[x]:=by
 rw[take_succ h,é,é,gQ];congr 1
 cases hx:b.contains x<;>simp only[eo,hx,dT,gG,dw,if_false,if_true,eE]
def abD {a b:List Int} (ha:a.length≤1000000) (hb:b.length≤1000000):kF a b=some (é a b):=by
 unfold kF Qs;refine ë a (fun i=>é (a.take i) b) _ rfl (fun i x hi hx kn=>?_) (fun kn=>?_)
 ·try dsimp only
  unfold sl
  have hl:(é (a.take i) b).length≤1000000:=by
   have:=A4 (a.take i) b;rw[dv] at this;omega
  rw[Ñ hi,Ç hx,asr hb,À,akt hx]
  cases b.contains x with
  |true=>rw[Ð (by rfl),Ê hi (by omega)]; simp
  |false=>rw[Õ (by rfl),Ç hx,Ô (by simp only[dN]; omega),Am.iff_true,Ê hi (by omega)]; simp
 ·try dsimp only
  unfold sl;rw[Ü,List.take_length]
def Nl (a b:List Int):Int:=(é a b).head?.getD 0
def L8 {a b:List Int} (ha:a.length≤1000000) (hb:b.length≤1000000):pN a b=some (Nl a b):=by
 unfold pN YF Nl;rw[abD ha hb,À,Û]
 cases h:é a b with
 |nil=>rfl
 |cons x t =>
  rw[Ð (by simp[ieq]; omega)];exact Ç (i:=0) rfl _
def O7 {b:ß} (hn:b.2.1.length≤1000000) (id:Int):rt b id=some (match b.2.1.findIdx? (fun g=>g.1==id) with|some j=>(j:Int)|none=>-1):=by
 unfold rt Qx;refine Eq.trans (iK b.2.1 (fun g=>g.1==id) (fun z=>some z) (some (-1)) (fun i a hi ha kn=>?_) (fun kn=>?_)) ?_
 ·try dsimp only
  unfold sm;rw[Ñ hi,Ç ha,Ê hi (by omega),ĥ]
 ·try dsimp only
  unfold sm;rw[Ü]
 ·cases List.findIdx? (fun g:ì=>g.1==id) b.2.1<;>rfl
def BZ {b:ß} {id:Int}:(∃j g,b.2.1.findIdx? (fun g=>g.1==id)=some j∧b.2.1[j]?=some g∧ŷ b id=some g)∨(b.2.1.findIdx? (fun g=>g.1==id)=none∧ŷ b id=none):=by
 unfold ŷ;rw[aa4]
 cases h:b.2.1.findIdx? (fun g=>g.1==id) with
 |none=>exact .inr ⟨rfl,rfl⟩
 |some j =>
  obtain⟨hj,_,_⟩:=dV.1 h;exact .inl ⟨j,_,rfl,df hj,df hj⟩
def ix (b:ß) (id day:Int):Int:=match ŷ b id with|some g=>if day<g.2.1 then 4 else 0|none=>5
def JI {b:ß} (hn:b.2.1.length≤1000000) (id day:Int):nz b id day=some (ix b id day):=by
 unfold nz Kk ix;rw[O7 hn,À];rcases BZ (b:=b) (id:=id) with⟨j,g,h1,h2,h3⟩|⟨h1,h2⟩
 ·rw[h1,h3]
  try dsimp only
  rw[Ð (by simp[ilt]),Ç h2,ĥ]
  by_cases hd:day<g.2.1
  ·rw[if_pos (by simpa[ilt] using hd),if_pos hd]
  ·rw[if_neg (by simpa[ilt] using hd),if_neg hd]
 ·rw[h1,h2];rfl
def D9 {b:ß} (hi:b.2.1.Pairwise fun a b=>a.1<b.1) (id day:Int):ix b id day=nW (iX b) id day:=by
 unfold ix nW;rw[BI hi]
 cases ŷ b id<;>rfl
def ajM {b:ß} (hn:b.2.2.2.1.length≤1000000) (id day:Int):Bc b id day=some (match mz b id day with|some l=>(l,true)|none=>((0,(0,0),0),false)):=by
 unfold Bc Qq;refine amL b.2.2.2.1 (fun _=>((0:Int),(0:Int),(0:Int),(0:Int))) _ (fun i=>∀l∈b.2.2.2.1.take i,(l.1==id&&inP day l.2.1.1 l.2.1.2)=false) rfl (by simp) (fun i a hi ha hP kn=>?_) (fun hP kn=>?_)
 ·try dsimp only
  unfold sk;rw[Ñ hi,Ç ha]
  by_cases hm:(a.1==id&&inP day a.2.1.1 a.2.1.2)=true
  ·refine .inl ?_;have hm2:=hm;simp only[inP,dh,beq_iff_eq,decide_eq_true_eq] at hm2;rw[Õ (by simp[ieq,hm2.1]),Õ (by simp[ile,hm2.2.1]),Õ (by simp[ile,hm2.2.2])]
   have hf:mz b id day=some a:=by
    unfold mz;obtain⟨hi',rfl⟩:=List.getElem?_eq_some_iff.1 ha;rw[List.find?_eq_some_iff_getElem];refine⟨hm,i,hi',rfl,fun j hj=>?_⟩;have:=hP b.2.2.2.1[j] (List.mem_iff_getElem.2 ⟨j,by rw[List.length_take]; omega,by rw[List.getElem_take]⟩);simp[this]
   rw[hf]
  ·refine .inr ⟨fun l hl=>?_,?_⟩
   ·rw[take_succ ha,dk,dt] at hl;rcases hl with hl|rfl
    ·exact hP l hl
    ·simpa using hm
   ·have hm2:=hm;simp only[inP,dh,beq_iff_eq,decide_eq_true_eq] at hm2
    by_cases h1:a.1=id
    ·by_cases h2:a.2.1.1≤day
     ·rw[Õ (by simp[ieq,h1]),Õ (by simp[ile,h2]),Ð (by simp[ile]; exact Int.lt_of_not_ge fun h3=>hm2 ⟨h1,h2,h3⟩),Ê hi (by omega)]
     ·rw[Õ (by simp[ieq,h1]),Ð (by simp[ile]; omega),Ê hi (by omega)]
    ·rw[Ð (by simp[ieq,h1]),Ê hi (by omega)]
 ·try dsimp only
  unfold sk;rw[Ü]
  have:mz b id day=none:=by
   unfold mz;rw[List.find?_eq_none];intro l hl;have:=hP l (by rw[List.take_length]; exact hl);simp[this]
  rw[this]
def aqJ {b:ß} (hn:b.2.2.1.length≤1000000) (id day:Int):Jb b id day=some (Nc b id day):=by
 unfold Jb Qb;refine Eq.trans (Ĺ b.2.2.1 (fun u=>u.1==id&&u.2==day) (fun _=>some true) (some true) (some false) (fun _=>rfl) (fun i a hi ha kn=>?_) (fun kn=>?_)) ?_
 ·try dsimp only
  unfold sh;rw[Ñ hi,Ç ha,Ç ha,Ê hi (by omega)]
  cases h1:(a.1==id) with
  |false=>have:ieq a.1 id=false:=h1; simp[this]
  |true =>
   have:ieq a.1 id=true:=h1;rw[this]
   cases h2:(a.2==day) with
   |false=>have:ieq a.2 day=false:=h2; simp[this]
   |true=>have:ieq a.2 day=true:=h2; simp[this]
 ·try dsimp only
  unfold sh;rw[Ü]
 ·unfold Nc
  cases b.2.2.1.any _<;>rfl
def aoA (a b:Nat):B9 a b=some ((Nat.gcd a b:Nat):Int):=by
 unfold B9 Zq;refine Ĭ (fun x:Int×Int=>∃c d:Nat,x=((c:Int),(d:Int))∧Nat.gcd c d=Nat.gcd a b) (fun x=>x.2.toNat) ?_ ⟨a,b,rfl,rfl⟩;rintro x ⟨c,d,rfl,hg⟩
 cases d with
 |zero =>
  refine .inl fun kn=>?_;rw[Nat.gcd_zero_right] at hg;unfold wC;simp[hg,ine]
 |succ d =>
  refine .inr ⟨(((d+1:Nat):Int),((c % (d+1):Nat):Int)),⟨d+1,c % (d+1),rfl,?_⟩,?_,fun kn=>?_⟩
  ·rw[←hg,il c (d+1),Nat.gcd_rec (d+1) c,il]
  ·have:=gU c (gS d);simp only[dE];omega
  ·unfold wC
   have h1:ine ((d+1:Nat):Int) 0=true:=by simp[ine]; omega
   have h2:Ě ((d+1:Nat):Int) 0=false:=by simp[Ě]; omega
   simp only[h1,Õ Ð h2];congr 1
def aoC {n:Int} (h : -9223372036854775807≤n∧n≤9223372036854775807):Je n=some (n.natAbs:Int):=by
 unfold Je Zv
 by_cases hn:n<0
 ·rw[Õ (by simpa[ilt] using hn),Ò (by omega) (by omega)];congr 1;omega
 ·rw[Ð (by simpa[ilt] using hn)];congr 1;omega
def aov (r:Int×Int):B7 r=some (Mh r):=by
 unfold B7 Kt Mh
 by_cases h1:1≤r.2
 ·rw[Ð (by simp[ilt]; omega)]
  by_cases h2:r.2≤2147483647
  ·rw[Ð (by simp[igt]; omega)]
   by_cases h3:r.1 < -2147483647
   ·rw[Õ (by simp[ilt]; omega)]
    have:¬((r.1.natAbs:Int)≤2147483647):=by omega
    simp[this]
   ·rw[Ð (by simp[ilt]; omega)]
    by_cases h4:2147483647<r.1
    ·rw[Õ (by simp[igt]; omega)]
     have:¬((r.1.natAbs:Int)≤2147483647):=by omega
     simp[this]
    ·rw[Ð (by simp[igt]; omega),aoC ⟨by omega,by omega⟩,À]
     have h5:r.2=((r.2.natAbs:Nat):Int):=by omega
     have h6:((r.1.natAbs:Int)≤2147483647):=by omega
     rw[h5,aoA,À,←h5];congr 1;rw[dX];simp only[ieq,beq_iff_eq,h1,h2,h6,decide_true,dW,decide_eq_true_eq];omega
  ·rw[Õ (by simp[igt]; omega)];simp[h2]
 ·rw[Õ (by simp[ilt]; omega)];simp[h1]
def aot (g:ì):B5 g=some (rl g):=by
 unfold B5 Kh rl;rw[aov,Bw,Bw,abE,Bw,xL,Bw];simp only[À]
 have e:igt g.2.2.2.2.1.2 100=!decide (g.2.2.2.2.1.2≤100):=by
  rw[dX]; simp[igt]
 rw[e]
 cases Mh g.2.2.2.2.1<;>cases inP g.2.2.2.2.1.1 (-1000) 1000<;>cases decide (g.2.2.2.2.1.2≤100)<;>cases inP g.1 1 1099511627776<;>cases uh g.2.1<;>cases inP g.2.2.1 1 1125899906842624<;>cases ku g.2.2.2.1 (-1073741824) 1073741824<;>rfl
def agm {l:List Int}:∀(m:List Int) (j:Nat) (x:Bool),Ħ (oK l) j m=some x→x=false:=by
 intro m
 induction m with
 |nil=>intro j x h; cases h
 |cons a m ih =>
  intro j x h;unfold Ħ at h
  cases hp:oK l j a with
  |none=>rw[hp] at h; exact ih _ _ h
  |some y =>
   rw[hp] at h;cases h;unfold oK at hp
   split at hp
   ·cases hp; rfl
   ·split at hp
    ·cases hp; rfl
    ·cases hp
def ajL {l:List Int} (hn:l.length≤1000000):Bb l=some (Ů l):=by
 unfold Bb Qh;refine Eq.trans (j9 l (oK l) some (some (decide (l.length≤6))) (fun i a hi ha kn=>?_) (fun kn=>?_)) ?_
 ·try dsimp only
  unfold si;rw[Ñ hi,Ç ha,Bw,À];unfold oK
  cases inP a 1 1099511627776 with
  |false=>rfl
  |true =>
   simp only[dT,Ý,dw,if_false];rcases fE i with h0|h0
   ·subst h0
    have:igt ((0:Nat):Int) 0=false:=by simp[igt]
    rw[Ð this,Ê hi (by omega)];simp[Br]
   ·obtain⟨q,hq⟩:=yU hi h0
    have h1:igt (i:Int) 0=true:=by simp[igt]; omega
    rw[Õ h1,Ç ha,LU h0 (by omega),A6 h0 hq];simp only[Br,h0,decide_true,Bool.true_and,hq,Option.any_some];unfold ile
    cases h2:decide (a≤q) with
    |true=>rfl
    |false =>
     rw[Ý,Ê hi (by omega)];rfl
 ·try dsimp only
  unfold si;rw[Ü,Û];simp[ile];omega
 ·unfold Ů
  cases h:Ħ (oK l) 0 l with
  |none=>rfl
  |some x=>rw[agm _ _ _ h]
def aor {c:Cmp} (hA:c.2.2.1.length≤1000000) (hB:c.2.2.2.1.length≤1000000):B3 c=some (Nn c):=by
 unfold B3 Ke Nn;rw[ajL hA,ajL hB,Bw,abE,Bw,Bw,xL];simp only[À]
 cases Ů c.2.2.1<;>cases Ů c.2.2.2.1<;>cases inP c.1 1 1099511627776<;>cases uh c.2.1<;>cases inP c.2.2.2.2.1 (-1125899906842624) 1125899906842624<;>cases inP c.2.2.2.2.2.1 0 1073741824<;>cases ku c.2.2.2.2.2.2 (-10000) 10000<;>rfl
def abO (b:ß) (u:Int×Int):Int:=if !uh u.2 then 1 else ix b u.1 u.2
def ail {b:ß} (hi:b.2.1.Pairwise fun a b=>a.1<b.1) (u:Int×Int):abO b u=alq (iX b) u.1 u.2:=by
 unfold abO alq;rw[D9 hi]
def ajf (e:Int):Option Int:=if e=0 then none else some e
def LI {α:Type} (E:Nat→α→Int):∀(k:Nat) (l:List α),Ħ (fun i a=>ajf (E i a)) k l=(l.mapIdx fun i a=>E (i+k) a).find? (fun e=>e != 0)
 |_,[]=>rfl
 |k,a::t=>by
  unfold Ħ;rw[LI E (k+1) t,List.mapIdx_cons,List.find?_cons];unfold ajf
  by_cases h:E k a=0
  ·simp only[h,if_true,dC];have:((0:Int) != 0)=false:=rfl;rw[this]
   have e:(fun(i:Nat) (a:α)=>E (i+(k+1)) a)=fun i a=>E (i+1+k) a:=by
    funext i a;congr 1;omega
   rw[e]
  ·simp only[h,if_false,dC]
   have:(E k a != 0)=true:=by simpa using h
   rw[this]
def SI {α:Type} (E:Nat→α→Int) (l:List α):Ħ (fun i a=>ajf (E i a)) 0 l=(l.mapIdx E).find? (fun e=>e != 0):=LI E 0 l
def SJ {α:Type} (E:α→Int) (l:List α):Ħ (fun _ a=>ajf (E a)) 0 l=(l.map E).find? (fun e=>e != 0):=by
 rw[LI (fun _ a=>E a) 0 l];congr 1
 exact List.ext_getElem (by simp) fun i h1 h2=>by simp
def aqF {b:ß} (hs:Η b):I9 b=some (((b.2.2.1.map (abO b)).find? (fun e=>e != 0)).getD 0):=by
 have h1:=hs.gauges;have h2:=hs.uses;unfold I9 P2;refine Eq.trans (j9 b.2.2.1 (fun _ u=>ajf (abO b u)) some (some 0) (fun i a hi ha kn=>?_) (fun kn=>?_)) ?_
 ·try dsimp only
  unfold sc;rw[Ñ hi,Ç ha,abE,À];unfold abO ajf
  cases uh a.2 with
  |false=>rfl
  |true =>
   rw[Ð (by rfl),Ç ha,Ç ha,JI (b:=((b.1.1,b.1.2),b.2.1,b.2.2.1,b.2.2.2.1,b.2.2.2.2.1,b.2.2.2.2.2)) (by simp only; omega),À,Ê hi (by omega)];have e:ix ((b.1.1,b.1.2),b.2.1,b.2.2.1,b.2.2.2.1,b.2.2.2.2.1,b.2.2.2.2.2) a.1 a.2=ix b a.1 a.2:=rfl;rw[e]
   by_cases hz:ix b a.1 a.2=0
   ·rw[Ð (by simp[ine,hz])]; simp[hz]
   ·rw[Õ (by simp[ine,hz])]; simp[hz]
 ·try dsimp only
  unfold sc;rw[Ü]
 ·rw[SJ]
  cases List.find? (fun e=>e != 0) (b.2.2.1.map (abO b))<;>rfl
def VJ (b:ß) (i:Nat) (l:M9):Int :=
 if !ku l.2.1 0 20000 then 1 else if !inP l.2.2 0 1048576 then 1 else if ix b l.1 l.2.1.1 != 0 then ix b l.1 l.2.1.1 else
 if (b.2.2.2.1.take i).any (fun x=>x.1==l.1&&(decide (x.2.1.1≤l.2.1.2)&&decide (l.2.1.1≤x.2.1.2))) then 9 else
 if b.2.2.1.any (fun u=>u.1==l.1&&inP u.2 l.2.1.1 l.2.1.2) then 9 else 0
def amQ {b:ß} (hi:b.2.1.Pairwise fun a b=>a.1<b.1) (i:Nat) (l:M9):VJ b i l=VK b (iX b) i l:=by
 unfold VJ VK;rw[D9 hi]
def aos {b:ß} (hs:Η b):B4 b=some (((b.2.2.2.1.mapIdx (VJ b)).find? (fun e=>e != 0)).getD 0):=by
 have h1:=hs.gauges;have h2:=hs.uses;have h3:=hs.loans;unfold B4 Kf;refine Eq.trans (j9 b.2.2.2.1 (fun i l=>ajf (VJ b i l)) some (some 0) (fun i l hi hl kn=>?_) (fun kn=>?_)) ?_
 ·try dsimp only
  unfold pv;rw[Ñ hi,Ç hl,xL,À];unfold VJ ajf
  cases ku l.2.1 0 20000 with
  |false=>rfl
  |true =>
  rw[Ð (by rfl),Bw,À]
  cases inP l.2.2 0 1048576 with
  |false=>rfl
  |true =>
  rw[Ð (by rfl),JI (b:=((b.1.1,b.1.2),b.2.1,b.2.2.1,b.2.2.2.1,b.2.2.2.2.1,b.2.2.2.2.2)) (by simp only; omega),À];have e:ix ((b.1.1,b.1.2),b.2.1,b.2.2.1,b.2.2.2.1,b.2.2.2.2.1,b.2.2.2.2.2) l.1 l.2.1.1=ix b l.1 l.2.1.1:=rfl;rw[e]
  by_cases hz:ix b l.1 l.2.1.1=0
  ·rw[Ð (by simp[ine,hz])]
   have hl9:(b.2.2.2.1.take i).length=i:=by rw[dv]; omega
   have inner:É (fun(v21:Int) kk23=>lX b.2.2.1 l.1 l.2.1.1 l.2.1.2 v21 (fun u22=>kk23 u22) (fun z18=>(some z18:Option Int)) (fun _=>ck ((i:Int)+(1:Int)) fun n20=>kn n20)) (0:Int)=if b.2.2.1.any (fun u=>u.1==l.1&&inP u.2 l.2.1.1 l.2.1.2) then some 9 else kn ((i:Int)+1):=by
    refine Ĺ b.2.2.1 _ (fun _=>some 9) (some 9) (kn ((i:Int)+1)) (fun _=>rfl) (fun j a hj ha kn'=>?_) (fun kn'=>?_)
    ·try dsimp only
     unfold lX;rw[Ñ hj,Ç ha,Ç ha,Bw,À,Ê hj (by omega)]
     cases hq:(a.1==l.1) with
     |false=>have:ieq a.1 l.1=false:=hq; simp[this]
     |true =>
      have:ieq a.1 l.1=true:=hq;rw[this]
      cases inP a.2 l.2.1.1 l.2.1.2<;>simp
    ·try dsimp only
     unfold lX;rw[Ü];dsimp only;rw[Ê hi (by omega)]
   try dsimp only
   rw[inner];refine fq (Ĺ (b.2.2.2.1.take i) (fun x=>x.1==l.1&&(decide (x.2.1.1≤l.2.1.2)&&decide (l.2.1.1≤x.2.1.2))) (fun _=>some 9) (some 9) (if b.2.2.1.any (fun u=>u.1==l.1&&inP u.2 l.2.1.1 l.2.1.2) then some 9 else kn ((i:Int)+1)) (fun _=>rfl) (fun j a hj ha kn'=>?_) (fun kn'=>?_)) ?_
   ·try dsimp only
    unfold pu;rw[hl9] at hj
    have ha':b.2.2.2.1[j]?=some a:=by rwa [List.getElem?_take_of_lt hj] at ha
    rw[Õ (show ilt (j:Int) (i:Int)=true by simp[ilt]; omega),Ç ha',Ç ha',Ç ha',Ê hj (by omega)]
    cases hq:(a.1==l.1) with
    |false=>have:ieq a.1 l.1=false:=hq; simp[this]
    |true =>
     have:ieq a.1 l.1=true:=hq;rw[this]
     cases h5:decide (a.2.1.1≤l.2.1.2)<;>cases h6:decide (l.2.1.1≤a.2.1.2)<;>simp[ile,h5,h6,ĥ]<;>simp_all
   ·try dsimp only
    unfold pu;rw[hl9,Ð (show ilt (i:Int) (i:Int)=false by simp[ilt])]
   ·simp only[hz]
    cases List.any (b.2.2.2.1.take i) _<;>cases b.2.2.1.any _<;>rfl
  ·rw[Õ (by simp[ine,hz])]; simp[hz]
 ·try dsimp only
  unfold pv;rw[Ü]
 ·rw[SI (VJ b)]
  cases(b.2.2.2.1.mapIdx (VJ b)).find? (fun e=>e != 0)<;>rfl
def C4 (b:ß) (c:Cmp):Int :=
 if (c.2.2.1++c.2.2.2.1).any (fun id=>ix b id c.2.1==5) then 5 else
 if (c.2.2.1++c.2.2.2.1).any (fun id=>ix b id c.2.1 != 0) then 4 else
 if (c.2.2.1++c.2.2.2.1).any (fun id=>(mz b id c.2.1).isSome) then 9 else
 if 1<(é c.2.2.1 c.2.2.2.1).length then 1 else if 1<(é c.2.2.2.1 c.2.2.1).length then 1 else
 if (é c.2.2.1 c.2.2.2.1).length+(é c.2.2.2.1 c.2.2.1).length=0 then 1 else 0
def apn {b:ß} (hi:b.2.1.Pairwise fun a b=>a.1<b.1) (c:Cmp):C4 b c=C5 b (iX b) c:=by
 unfold C4 C5;simp only[D9 hi]
 by_cases h5:(c.2.2.1++c.2.2.2.1).any (fun id=>nW (iX b) id c.2.1==5)=true
 ·rw[if_pos h5,if_pos h5]
 ·rw[if_neg h5,if_neg h5]
  have e:(c.2.2.1++c.2.2.2.1).any (fun id=>nW (iX b) id c.2.1 != 0)=(c.2.2.1++c.2.2.2.1).any (fun id=>nW (iX b) id c.2.1==4):=by
   rw[dX,fD,fD];constructor
   ·rintro⟨x,hx,h⟩;refine⟨x,hx,?_⟩;rcases PT (iX b) x c.2.1 with h1|h1|h1
    ·rw[h1] at h; cases h
    ·rw[h1]; rfl
    ·exact absurd (fD.2 ⟨x,hx,by rw[h1]; rfl⟩) h5
   ·rintro⟨x,hx,h⟩;refine⟨x,hx,?_⟩;rw[eq_of_beq h]; rfl
  rw[e]
def af8 {b:ß} {id d:Int}:(ix b id d==5)=(b.2.1.findIdx? (fun g=>g.1==id)).isNone:=by
 unfold ix;rcases BZ (b:=b) (id:=id) with⟨j,g,h1,h2,h3⟩|⟨h1,h2⟩
 ·rw[h1,h3]
  try dsimp only
  split<;>rfl
 ·rw[h1,h2]; rfl
set_option maxHeartbeats 1000000 in
def afO {b:ß} (hs:Η b) {c:Cmp} (hA:c.2.2.1.length≤1000) (hB:c.2.2.2.1.length≤1000):kg b c=some (C4 b c):=by
 have h1:=hs.gauges;have h3:=hs.loans;unfold kg ww C4;rw[Ô (by omega),Am.iff_true,List.nil_append,Ô (by omega),Am.iff_true]
 have hl:(c.2.2.1++c.2.2.2.1).length≤2000:=by rw[di]; omega
 generalize hP:c.2.2.1++c.2.2.2.1=P at hl
 have hol:∀{i:Nat},i<P.length→((ile (0:Int) (i:Int))&&(ilt (i:Int) (ô P)))=true:=fun {i} hi=>by simp[ile,ilt,ô]; omega
 have third:É (fun(v19:Int) kk21=>Υ b.1.1 b.1.2 b.2.1 b.2.2.1 b.2.2.2.1 b.2.2.2.2.1 b.2.2.2.2.2 c.2.1 P v19 (fun u20=>kk21 u20) (fun z14=>some z14) (fun _=>Ã (kF c.2.2.1 c.2.2.2.1) fun r16=>Ã (kF c.2.2.2.1 c.2.2.1) fun r17=>ifb (igt (Ó r16) (1:Int)) (some (1:Int)) (ifb (igt (Ó r17) (1:Int)) (some (1:Int)) (ck ((Ó r16)+(Ó r17)) fun n18=>ifb (ieq n18 (0:Int)) (some (1:Int)) (some (0:Int)))))) (0:Int) =
  some (if P.any (fun id=>(mz b id c.2.1).isSome) then 9 else if 1<(é c.2.2.1 c.2.2.2.1).length then 1 else if 1<(é c.2.2.2.1 c.2.2.1).length then 1 else if (é c.2.2.1 c.2.2.2.1).length+(é c.2.2.2.1 c.2.2.1).length=0 then 1 else 0):=by
  refine fq (Ĺ P (fun id=>(mz b id c.2.1).isSome) (fun _=>some 9) (some 9) (some (if 1<(é c.2.2.1 c.2.2.2.1).length then 1 else if 1<(é c.2.2.2.1 c.2.2.1).length then 1 else if (é c.2.2.1 c.2.2.2.1).length+(é c.2.2.2.1 c.2.2.1).length=0 then 1 else 0)) (fun _=>rfl) (fun i a hi ha kn=>?_) (fun kn=>?_)) ?_
  ·try dsimp only
   unfold Υ;rw[Ñ hi,Ĥ (hol hi),ĭ ha,ajM (b:=((b.1.1,b.1.2),b.2.1,b.2.2.1,b.2.2.2.1,b.2.2.2.2.1,b.2.2.2.2.2)) (by simp only; omega),À,Ê hi (by omega)];have e:mz ((b.1.1,b.1.2),b.2.1,b.2.2.1,b.2.2.2.1,b.2.2.2.2.1,b.2.2.2.2.2) a c.2.1=mz b a c.2.1:=rfl;rw[e]
   cases mz b a c.2.1<;>rfl
  ·try dsimp only
   unfold Υ;rw[Ü];dsimp only;have l1:=A4 c.2.2.1 c.2.2.2.1;have l2:=A4 c.2.2.2.1 c.2.2.1;rw[abD (by omega) (by omega),À,abD (by omega) (by omega),À];simp only[Û]
   by_cases q1:1<(é c.2.2.1 c.2.2.2.1).length
   ·rw[Õ (by simp[igt]; omega),if_pos q1]
   ·rw[Ð (by simp[igt]; omega),if_neg q1]
    by_cases q2:1<(é c.2.2.2.1 c.2.2.1).length
    ·rw[Õ (by simp[igt]; omega),if_pos q2]
    ·rw[Ð (by simp[igt]; omega),if_neg q2,Ò (by omega) (by omega)]
     by_cases q3:(é c.2.2.1 c.2.2.2.1).length+(é c.2.2.2.1 c.2.2.1).length=0
     ·rw[Õ (by simp[ieq]; omega),if_pos q3]
     ·rw[Ð (by simp[ieq]; omega),if_neg q3]
  ·cases P.any _<;>rfl
 have second:É (fun(v22:Int) kk24=>jo b.1.1 b.1.2 b.2.1 b.2.2.1 b.2.2.2.1 b.2.2.2.2.1 b.2.2.2.2.2 c.2.1 P v22 (fun u23=>kk24 u23) (fun z9=>some z9) (fun _=>É (fun(v19:Int) kk21=>Υ b.1.1 b.1.2 b.2.1 b.2.2.1 b.2.2.2.1 b.2.2.2.2.1 b.2.2.2.2.2 c.2.1 P v19 (fun u20=>kk21 u20) (fun z14=>some z14) (fun _=>Ã (kF c.2.2.1 c.2.2.2.1) fun r16=>Ã (kF c.2.2.2.1 c.2.2.1) fun r17=>ifb (igt (Ó r16) (1:Int)) (some (1:Int)) (ifb (igt (Ó r17) (1:Int)) (some (1:Int)) (ck ((Ó r16)+(Ó r17)) fun n18=>ifb (ieq n18 (0:Int)) (some (1:Int)) (some (0:Int)))))) (0:Int))) (0:Int) =
  some (if P.any (fun id=>ix b id c.2.1 != 0) then 4 else if P.any (fun id=>(mz b id c.2.1).isSome) then 9 else if 1<(é c.2.2.1 c.2.2.2.1).length then 1 else if 1<(é c.2.2.2.1 c.2.2.1).length then 1 else if (é c.2.2.1 c.2.2.2.1).length+(é c.2.2.2.1 c.2.2.1).length=0 then 1 else 0):=by
  rw[third];refine fq (Ĺ P (fun id=>ix b id c.2.1 != 0) (fun _=>some 4) (some 4) (some (if P.any (fun id=>(mz b id c.2.1).isSome) then 9 else if 1<(é c.2.2.1 c.2.2.2.1).length then 1 else if 1<(é c.2.2.2.1 c.2.2.1).length then 1 else if (é c.2.2.1 c.2.2.2.1).length+(é c.2.2.2.1 c.2.2.1).length=0 then 1 else 0)) (fun _=>rfl) (fun i a hi ha kn=>?_) (fun kn=>?_)) ?_
  ·try dsimp only
   unfold jo;rw[Ñ hi,Ĥ (hol hi),ĭ ha,JI (b:=((b.1.1,b.1.2),b.2.1,b.2.2.1,b.2.2.2.1,b.2.2.2.2.1,b.2.2.2.2.2)) (by simp only; omega),À,Ê hi (by omega)];have e:ix ((b.1.1,b.1.2),b.2.1,b.2.2.1,b.2.2.2.1,b.2.2.2.2.1,b.2.2.2.2.2) a c.2.1=ix b a c.2.1:=rfl;rw[e,ĥ]
  ·try dsimp only
   unfold jo;rw[Ü]
  ·cases P.any (fun id=>ix b id c.2.1 != 0)<;>rfl
 rw[second];refine fq (Ĺ P (fun id=>ix b id c.2.1==5) (fun _=>some 5) (some 5) (some (if P.any (fun id=>ix b id c.2.1 != 0) then 4 else if P.any (fun id=>(mz b id c.2.1).isSome) then 9 else if 1<(é c.2.2.1 c.2.2.2.1).length then 1 else if 1<(é c.2.2.2.1 c.2.2.1).length then 1 else if (é c.2.2.1 c.2.2.2.1).length+(é c.2.2.2.1 c.2.2.1).length=0 then 1 else 0)) (fun _=>rfl) (fun i a hi ha kn=>?_) (fun kn=>?_)) ?_
 ·try dsimp only
  unfold kM;rw[Ñ hi,Ĥ (hol hi),ĭ ha,O7 (b:=((b.1.1,b.1.2),b.2.1,b.2.2.1,b.2.2.2.1,b.2.2.2.2.1,b.2.2.2.2.2)) (by simp only; omega),À,Ê hi (by omega),af8]
  try dsimp only
  cases List.findIdx? (fun g:ì=>g.1==a) b.2.1 with
  |none=>rfl
  |some j =>
   have:ilt (j:Int) 0=false:=by simp[ilt]
   rw[Ð this]; rfl
 ·try dsimp only
  unfold kM;rw[Ü]
 ·cases P.any (fun id=>ix b id c.2.1==5)<;>rfl
structure Pre (b:ß):Prop where
 size:Η b
 gauge:∀g∈b.2.1,rl g=true
 cmp:∀c∈b.2.2.2.2.1,uh c.2.1=true∧(é c.2.2.1 c.2.2.2.1).length≤1∧(é c.2.2.2.1 c.2.2.1).length≤1
 look:∀n∈b.2.2.2.2.2,uh n.2=true
def acM {c:Cmp} (h:Nn c=true):uh c.2.1=true:=by
 have:=((η c).1 h).2.1;simp[uh,inP,this.1,this.2]
def Ğ.pre {b:ß} (h:Ğ b):Pre b :=
 ⟨h.size,h.gauge,fun c hc=>⟨acM (h.nums hc),(h.lefts hc).1,(h.lefts hc).2.1⟩,fun n hn=>(by have:=(abP h (h.looks n hn)).1; simp[uh,inP,this.1,this.2])⟩
def Yk {a b:List Int} (h:(é a b).length≤1) {id:Int} (h0:id≠0):Nl a b=id↔id∈a∧id∉b:=by
 rw[←kD];unfold Nl
 cases hl:é a b with
 |nil =>
  simp only[List.head?_nil,Option.getD_none,gp,iff_false];exact fun e=>h0 e.symm
 |cons x t =>
  have:t=[]:=by
   rw[hl] at h;simp only[dn] at h;exact dA.1 (by omega)
  subst this;simp only[List.head?_cons,fP,dt];exact eq_comm
def Oz (b:ß) (g:ì) (d:Int):Bool :=
 g.2.1==d||b.2.2.2.2.1.any (fun c=>c.2.1==d&&(Nl c.2.2.1 c.2.2.2.1==g.1||Nl c.2.2.2.1 c.2.2.1==g.1))||b.2.2.2.2.2.any (fun n=>n.1==g.1&&n.2==d)
def aqI {b:ß} (hs:Η b) (g:ì) (d:Int):Ja b g d=some (Oz b g d):=by
 have h1:=hs.compares;have h2:=hs.looks;unfold Ja P9 Oz
 cases hm:(g.2.1==d) with
 |true =>
  have:ieq g.2.1 d=true:=hm;rw[Õ this];simp
 |false =>
  have:ieq g.2.1 d=false:=hm;rw[Ð this]
  have inner:É (fun(v14:Int) kk16=>og d b.2.2.2.2.2 g.1 v14 (fun u15=>kk16 u15) (fun z12=>some z12) (fun _=>some false)) (0:Int)=some (b.2.2.2.2.2.any (fun n=>n.1==g.1&&n.2==d)):=by
   refine fq (Ĺ b.2.2.2.2.2 (fun n=>n.1==g.1&&n.2==d) (fun _=>some true) (some true) (some false) (fun _=>rfl) (fun i a hi ha kn=>?_) (fun kn=>?_)) ?_
   ·try dsimp only
    unfold og;rw[Ñ hi,Ç ha,Ç ha,Ê hi (by omega)]
    cases h1:(a.1==g.1) with
    |false=>have:ieq a.1 g.1=false:=h1; simp[this]
    |true =>
     have:ieq a.1 g.1=true:=h1;rw[this]
     cases h2:(a.2==d) with
     |false=>have:ieq a.2 d=false:=h2; simp[this]
     |true=>have:ieq a.2 d=true:=h2; simp[this]
   ·try dsimp only
    unfold og;rw[Ü]
   ·cases b.2.2.2.2.2.any _<;>rfl
  rw[inner];refine fq (Ĺ b.2.2.2.2.1 (fun c=>c.2.1==d&&(Nl c.2.2.1 c.2.2.2.1==g.1||Nl c.2.2.2.1 c.2.2.1==g.1)) (fun _=>some true) (some true) (some (b.2.2.2.2.2.any (fun n=>n.1==g.1&&n.2==d))) (fun _=>rfl) (fun i a hi ha kn=>?_) (fun kn=>?_)) ?_
  ·have hp:=hs.piles a (dl ha)
   try dsimp only
   unfold sg;rw[Ñ hi,Ç ha,L8 (by omega) (by omega),L8 (by omega) (by omega),Ê hi (by omega)];simp only[À]
   cases h1:(a.2.1==d) with
   |false=>have:ieq a.2.1 d=false:=h1; simp[this]
   |true =>
    have:ieq a.2.1 d=true:=h1;rw[this]
    cases h2:(Nl a.2.2.1 a.2.2.2.1==g.1) with
    |true=>have:ieq (Nl a.2.2.1 a.2.2.2.1) g.1=true:=h2; simp[this]
    |false =>
     have:ieq (Nl a.2.2.1 a.2.2.2.1) g.1=false:=h2;rw[this]
     cases h3:(Nl a.2.2.2.1 a.2.2.1==g.1) with
     |true=>have:ieq (Nl a.2.2.2.1 a.2.2.1) g.1=true:=h3; simp[this]
     |false=>have:ieq (Nl a.2.2.2.1 a.2.2.1) g.1=false:=h3; simp[this]
  ·try dsimp only
   unfold sg;rw[Ü]
  ·cases b.2.2.2.2.1.any _<;>rfl
def aol {b:ß} (h:Pre b) {g:ì} (hg:g∈b.2.1) {d:Int}:Oz b g d=true↔d∈ã b g:=by
 have hid:g.1≠0:=by
  have:=((vD g).1 (h.gauge g hg)).2.2.2.1;omega
 rw[kJ];unfold Oz;simp only[Bool.or_eq_true,List.any_eq_true,Bool.and_eq_true,beq_iff_eq,or_assoc];refine or_congr eq_comm (or_congr ?_ Iff.rfl);constructor
 ·rintro⟨c,hc,e,h1⟩;obtain⟨_,l1,l2⟩:=h.cmp c hc;refine⟨c,hc,?_,e⟩;rw[Yk l1 hid,Yk l2 hid] at h1;intro he;rw[dX,eQ,eQ] at he;rcases h1 with⟨x,y⟩|⟨x,y⟩
  ·exact y (he.1 x)
  ·exact y (he.2 x)
 ·rintro⟨c,hc,h1,e⟩;obtain⟨_,l1,l2⟩:=h.cmp c hc;refine⟨c,hc,e,?_⟩;rw[Yk l1 hid,Yk l2 hid]
  by_cases ha:g.1∈c.2.2.1
  ·by_cases hb:g.1∈c.2.2.2.1
   ·exact absurd (by rw[dX,eQ,eQ]; exact⟨fun _=>hb,fun _=>ha⟩) h1
   ·exact .inl ⟨ha,hb⟩
  ·by_cases hb:g.1∈c.2.2.2.1
   ·exact .inr ⟨hb,ha⟩
   ·exact absurd (by rw[dX,eQ,eQ]; exact⟨fun x=>absurd x ha,fun x=>absurd x hb⟩) h1
def nx (v:Int) (D:List Int):Int:=D.foldl (fun m d=>if v<d then min m d else m) 20001
def amp (v:Int) (D:List Int) (d:Int):nx v (D++[d])=if v<d then min (nx v D) d else nx v D:=by
 unfold nx;rw[List.foldl_append];rfl
def Yl (v:Int):∀D:List Int,nx v D≤20001∧(∀d∈D,v<d→nx v D≤d)∧(nx v D=20001∨(nx v D∈D∧v<nx v D)):=by
 suffices H:∀(n:Nat) (D:List Int),D.length=n→nx v D≤20001∧(∀d∈D,v<d→nx v D≤d)∧(nx v D=20001∨(nx v D∈D∧v<nx v D)) from fun D=>H _ D rfl
 intro n
 induction n with
 |zero =>
  intro D hD;rw[dA.1 hD];exact⟨dR _,by simp,.inl rfl⟩
 |succ n ih =>
  intro D' hD'
  obtain⟨D,d,rfl⟩:∃D d,D'=D++[d]:=by
   rcases List.eq_nil_or_concat D' with rfl|⟨L,b,rfl⟩
   ·simp at hD'
   ·exact⟨L,b,by simp⟩
  obtain⟨h1,h2,h3⟩:=ih D (by simpa using hD');rw[amp]
  by_cases hd:v<d
  ·rw[if_pos hd];refine⟨by omega,fun x hx hv=>?_,?_⟩
   ·rcases dk.1 hx with hx|hx
    ·have:=h2 x hx hv; omega
    ·rw[dt] at hx; omega
   ·rcases Int.le_total (nx v D) d with h|h
    ·rw[Int.min_eq_left h];rcases h3 with h3|h3
     ·exact .inl h3
     ·exact .inr ⟨by simp[h3.1],h3.2⟩
    ·rw[Int.min_eq_right h];exact .inr ⟨by simp,hd⟩
  ·rw[if_neg hd];refine⟨h1,fun x hx hv=>?_,?_⟩
   ·rcases dk.1 hx with hx|hx
    ·exact h2 x hx hv
    ·rw[dt] at hx; omega
   ·rcases h3 with h3|h3
    ·exact .inl h3
    ·exact .inr ⟨by simp[h3.1],h3.2⟩
def arG {D:List Int} (hD:D.length≤1000000) (v:Int) (K:Int→Option (List (Int×Int))) :
 É (fun(v18:Int×Int) kk21=>lY v D v18.1 v18.2 (fun u19 u20=>kk21 (u19,u20)) K) ((20001:Int),(0:Int))=K (nx v D):=by
 refine Ĭ (fun x:Int×Int=>∃k:Nat,k≤D.length∧x=(nx v (D.take k),(k:Int))) (fun x=>D.length-x.2.toNat) ?_ ⟨0,by omega,rfl⟩;rintro x ⟨k,hk,rfl⟩;rcases dG k D.length with hlt|hge
 ·refine .inr ⟨(nx v (D.take (k+1)),((k+1:Nat):Int)),⟨k+1,hlt,rfl⟩,by simp only[Int.toNat_natCast]; omega,fun kn=>?_⟩;have ha:D[k]?=some D[k]:=List.getElem?_eq_getElem hlt;unfold lY;have ho:ô D=((D.length:Nat):Int):=rfl;rw[Ñ hlt,ho,iN hlt,ĭ ha,take_succ ha,amp]
  by_cases h:v<D[k]
  ·rw[Õ (by simpa[igt] using h),iN hlt,ĭ ha,Ê hlt (by omega),if_pos h,tX];simp
  ·rw[Ð (by simpa[igt] using h),Ê hlt (by omega),if_neg h];simp
 ·have:k=D.length:=by omega
  subst this;refine .inl fun kn=>?_;unfold lY;rw[Ü,List.take_length]
def alc (b:ß) (g:ì) (D:List Int) (v:Int):List Int:=(ab6 D).filter fun d=>decide (v<d)&&Oz b g d
def Tt {b:ß} {g:ì} {D:List Int} (hD:∀d∈D,d≤20000) (v:Int):alc b g D v=if nx v D<20001 then(if Oz b g (nx v D) then nx v D::alc b g D (nx v D) else alc b g D (nx v D)) else[]:=by
 obtain⟨h1,h2,h3⟩:=Yl v D;refine ah6 ((Eb D).sublist List.filter_sublist) ?_ fun x=>?_
 ·split
  ·split
   ·rw[dQ];refine⟨fun a ha=>?_,(Eb D).sublist List.filter_sublist⟩;have:=(fS.1 ha).2;simp at this;omega
   ·exact(Eb D).sublist List.filter_sublist
  ·exact List.Pairwise.nil
 ·have hm:∀v x,x∈alc b g D v↔x∈D∧v<x∧Oz b g x=true:=by
   intro v x;unfold alc;rw[List.mem_filter,BB];simp
  rw[hm]
  split
  ·rename_i hlt
   have h4:nx v D∈D∧v<nx v D:=by
    rcases h3 with h3|h3
    ·omega
    ·exact h3
   split
   ·rename_i ha;rw[dm,hm];constructor
    ·rintro⟨a,c,e⟩;have:=h2 x a c;rcases Int.lt_or_eq_of_le this with h|h
     ·exact .inr ⟨a,h,e⟩
     ·exact .inl h.symm
    ·rintro(rfl|⟨a,c,e⟩)
     ·exact⟨h4.1,h4.2,ha⟩
     ·exact⟨a,by omega,e⟩
   ·rename_i ha;rw[hm];constructor
    ·rintro⟨a,c,e⟩;have:=h2 x a c;rcases Int.lt_or_eq_of_le this with h|h
     ·exact⟨a,h,e⟩
     ·rw[←h] at e; exact absurd e ha
    ·rintro⟨a,c,e⟩;exact⟨a,by omega,e⟩
  ·rename_i hge;constructor
   ·rintro⟨a,c,e⟩;have:=h2 x a c;have:=hD x a;omega
   ·intro h; cases h
def aqA {b:ß} {g:ì} {D:List Int} (v:Int):(alc b g D v).length≤D.length :=
 dL (dP _ _) (F8 D)
set_option maxHeartbeats 1000000 in
def ap8 {b:ß} (hs:Η b) {i:Nat} {g:ì} (hg:b.2.1[i]?=some g) {D:List Int} (hl:D.length≤1000000) (hD:∀d∈D,d≤20000) {out:List (Int×Int)} (ho:out.length+D.length≤1000000000) (K:List (Int×Int)→Option (List (Int×Int))) :
 É (fun(v24:Int×List (Int×Int)) kk27=>lZ (i:Int) b.1.1 b.1.2 b.2.1 b.2.2.1 b.2.2.2.1 b.2.2.2.2.1 b.2.2.2.2.2 D v24.1 v24.2 (fun u25 u26=>kk27 (u25,u26)) K) ((-1:Int),out)=K (out++(alc b g D (-1)).map fun d=>((g.1,d):Int×Int)):=by
 refine Ĭ (fun x:Int×List (Int×Int)=>x.2++(alc b g D x.1).map (fun d=>((g.1,d):Int×Int))=out++(alc b g D (-1)).map fun d=>((g.1,d):Int×Int)) (fun x=>(20001-x.1).toNat) ?_ rfl;rintro⟨v,o⟩ hI;simp only at hI
 by_cases hv:v<20001
 ·obtain⟨h1,h2,h3⟩:=Yl v D
  have hlt:v<nx v D:=by
   rcases h3 with h3|h3
   ·omega
   ·exact h3.2
  refine .inr ⟨(nx v D,if nx v D<20001∧Oz b g (nx v D)=true then o++[(g.1,nx v D)] else o),?_,by simp only; omega,fun kn=>?_⟩
  ·rw[←hI];simp only;rw[Tt hD v]
   by_cases ha:nx v D<20001
   ·rw[if_pos ha]
    cases hq:Oz b g (nx v D) with
    |true=>rw[if_pos ⟨ha,rfl⟩,if_pos rfl]; simp
    |false=>rw[if_neg (by simp),if_neg (by simp)]
   ·rw[if_neg (by omega),if_neg ha]
    have:alc b g D (nx v D)=[]:=by
     have e:=Tt (b:=b) (g:=g) hD (nx v D);rw[e,if_neg];obtain⟨g1,g2,g3⟩:=Yl (nx v D) D;rcases g3 with g3|g3
     ·omega
     ·have:=hD _ g3.1; omega
    rw[this]
  ·unfold lZ;rw[Õ (by simpa[ilt] using hv)];refine Eq.trans (arG hl v _) ?_;dsimp only
   by_cases ha:nx v D<20001
   ·rw[Õ (by simpa[ilt] using ha),Ç hg,aqI (b:=((b.1.1,b.1.2),b.2.1,b.2.2.1,b.2.2.2.1,b.2.2.2.2.1,b.2.2.2.2.2)) ⟨hs.gauges,hs.uses,hs.loans,hs.compares,hs.looks,hs.piles⟩,À];have e:Oz ((b.1.1,b.1.2),b.2.1,b.2.2.1,b.2.2.2.1,b.2.2.2.2.1,b.2.2.2.2.2) g (nx v D)=Oz b g (nx v D):=rfl;rw[e]
    cases hq:Oz b g (nx v D) with
    |true =>
     have hol:o.length≤1000000000:=by
      have:=congrArg List.length hI;simp only[di,eF] at this;have:=aqA (b:=b) (g:=g) (D:=D) (-1);omega
     rw[Õ rfl,Ç hg,Ô (by simp only[dN]; omega),Am.iff_true,if_pos ⟨ha,rfl⟩]
    |false=>rw[Ð rfl,if_neg (by simp)]
   ·rw[Ð (by simpa[ilt] using ha),if_neg (by omega)]
 ·refine .inl fun kn=>?_;unfold lZ;rw[Ð (by simpa[ilt] using hv)]
  have:alc b g D v=[]:=by
   rw[Tt hD,if_neg];obtain⟨g1,g2,g3⟩:=Yl v D;rcases g3 with g3|g3
   ·omega
   ·have:=hD _ g3.1; omega
  rw[this] at hI;simp only[fO,dU] at hI;rw[hI]
def Bu (b:ß):List Int:=b.2.1.map (fun g=>g.2.1)++b.2.2.2.2.1.map (fun c=>c.2.1)++b.2.2.2.2.2.map fun n=>n.2
def ah7 {b:ß} (hs:Η b):(Bu b).length≤3000:=by
 have h1:=hs.gauges; have h2:=hs.compares; have h3:=hs.looks;simp only[Bu,di,eF];omega
def Pre.days {b:ß} (h:Pre b):∀d∈Bu b,0≤d∧d≤20000:=by
 intro d hd;simp only[Bu,dk,dZ] at hd;rcases hd with(⟨g,hg,rfl⟩|⟨c,hc,rfl⟩)|⟨n,hn,rfl⟩
 ·have:=((vD g).1 (h.gauge g hg)).2.2.2.2.1;omega
 ·have:=(h.cmp c hc).1;simp only[uh,inP,dh,decide_eq_true_eq] at this;exact this
 ·have:=h.look n hn;simp only[uh,inP,dh,decide_eq_true_eq] at this;exact this
def aom {b:ß} (h:Pre b) {g:ì} (hg:g∈b.2.1):alc b g (Bu b) (-1)=ã b g:=by
 refine ah6 ((Eb _).sublist List.filter_sublist) (xG b g) fun x=>?_;unfold alc;rw[List.mem_filter,BB,Bool.and_eq_true,aol h hg,decide_eq_true_eq];constructor
 ·exact fun hx=>hx.2.2
 ·intro hx
  have hm:x∈Bu b:=by
   simp only[Bu,dk,dZ];rcases kJ.1 hx with e|⟨c,hc,_,e⟩|⟨n,hn,_,e⟩
   ·exact .inl (.inl ⟨g,hg,e.symm⟩)
   ·exact .inl (.inr ⟨c,hc,e⟩)
   ·exact .inr ⟨n,hn,e⟩
  have:=h.days x hm;exact⟨hm,by omega,hx⟩
def Yr {α:Type} (f:α→Int) (l:List α) (s:List Int) (i:Nat) {a:α} (ha:l[i]?=some a):s++(l.take (i+1)).map f=(s++(l.take i).map f)++[f a]:=by
 rw[take_succ ha,ic,dF]; rfl
def JJ {b:ß} (h:Pre b):kh b=some (Í b):=by
 have h1:=h.size.gauges; have h2:=h.size.compares; have h3:=h.size.looks;have hl:=ah7 h.size;unfold kh Kl;refine ë b.2.1 (fun i=>(b.2.1.take i).map (fun g=>g.2.1)) _ rfl (fun i a hi ha kn=>?_) (fun kn=>?_)
 ·try dsimp only
  unfold pC;have:=Yr (fun g:ì=>g.2.1) b.2.1 [] i ha;simp only[List.nil_append] at this;rw[Ñ hi,Ç ha,Ô (by simp only[List.length_map,List.length_take,List.length_singleton]; omega),Am.iff_true,Ê hi (by omega),this]
 ·try dsimp only
  unfold pC;rw[Ü,List.take_length];dsimp only;refine ë b.2.2.2.2.1 (fun i=>b.2.1.map (fun g=>g.2.1)++(b.2.2.2.2.1.take i).map (fun c=>c.2.1)) _ (by simp) (fun i a hi ha kn=>?_) (fun kn=>?_)
  ·try dsimp only
   unfold pB;rw[Ñ hi,Ç ha,Ô (by simp only[List.length_append,List.length_map,List.length_take,List.length_singleton]; omega),Am.iff_true,Ê hi (by omega),Yr (fun c:Cmp=>c.2.1) b.2.2.2.2.1 _ i ha]
  ·try dsimp only
   unfold pB;rw[Ü,List.take_length];dsimp only;refine ë b.2.2.2.2.2 (fun i=>b.2.1.map (fun g=>g.2.1)++b.2.2.2.2.1.map (fun c=>c.2.1)++(b.2.2.2.2.2.take i).map (fun n=>n.2)) _ (by simp) (fun i a hi ha kn=>?_) (fun kn=>?_)
   ·try dsimp only
    unfold pA;rw[Ñ hi,Ç ha,Ô (by simp only[List.length_append,List.length_map,List.length_take,List.length_singleton]; omega),Am.iff_true,Ê hi (by omega),Yr (fun n:Int×Int=>n.2) b.2.2.2.2.2 _ i ha]
   ·try dsimp only
    unfold pA;rw[Ü,List.take_length];dsimp only;rw[show b.2.1.map (fun g=>g.2.1)++b.2.2.2.2.1.map (fun c=>c.2.1)++b.2.2.2.2.2.map (fun n=>n.2)=Bu b from rfl];refine ë b.2.1 (fun i=>(b.2.1.take i).flatMap fun g=>(ã b g).map fun d=>((g.1,d):Int×Int)) _ rfl (fun i g hi hg kn=>?_) (fun kn=>?_)
    ·try dsimp only
     unfold pw;rw[Ñ hi]
     have hlen:((b.2.1.take i).flatMap fun g=>(ã b g).map fun d=>((g.1,d):Int×Int)).length≤2001000:=by
      have:=xt (fun g:ì=>(ã b g).map fun d=>((g.1,d):Int×Int)) 2001 (fun g=>by rw[eF]; exact Js h.size g) (b.2.1.take i);rw[dv] at this;have:min i b.2.1.length*2001≤1000*2001:=dM _ (by omega);omega
     refine fq (ap8 h.size hg (by omega) (fun d hd=>(h.days d hd).2) (by omega) _) ?_;rw[Ê hi (by omega),aom h (dl hg),take_succ hg,ft];simp
    ·try dsimp only
     unfold pw;rw[Ü,List.take_length];rfl
end Go.Proofs.ZzM
end
