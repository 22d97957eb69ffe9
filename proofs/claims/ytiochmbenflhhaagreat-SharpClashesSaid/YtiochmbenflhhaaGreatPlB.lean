/- lemmas -/
import Derived.Test.YtiochmbenflhhaaGreatPlA
import Derived.Test.YtiochmbenflhhaaGreatMdTA
set_option linter.all false
set_option linter.unusedSectionVars false
set_option linter.unusedVariables false
set_option linter.unusedSimpArgs false
noncomputable section
namespace Go.Proofs.ZzM
open Go Go.Am
structure asM (B:Þ):Prop where
 good:Ċ B
 op:Ĕ (Ø B) ((Ì B).length+1)=true
 num:∀g∈B.2.1,I64 g.2.2.2.2.1.1
theorem nB {b:Þ} (hI:In b) {ns:List (Int×Int)} (e:(ě b ns).2=0):asM (ě b ns).1∧(ě b ns).1=(ū b ns).1∧(ū b ns).2=0∧Ċ b:=by
 unfold ě at e ⊢
 by_cases hc:â b=0
 ·rw[if_neg (by simp[hc])] at e ⊢
  by_cases hr:(ū b ns).2=0
  ·rw[if_neg (by simp[hr])] at e ⊢
   cases ho:Ĕ (Ø (ū b ns).1) ((Ì (ū b ns).1).length+1) with
   |true =>
    rw[if_pos rfl];exact⟨⟨EV ((ê b).1 hc) hr,ho,by rw[Ds hr]; exact hI.num⟩,rfl,hr,(ê b).1 hc⟩
   |false=>rw[ho] at e; simp at e
  ·rw[if_pos hr] at e; exact absurd e hr
 ·rw[if_pos hc] at e; exact absurd e hc
theorem Χ (B:Þ) (n:Int×Int):0≤A5 B n.1 n.2∧A5 B n.1 n.2<((Ì B).length+1:Nat):=by
 unfold A5
 cases h:jf (Ì B) n.1 n.2 with
 |none=>dsimp only; omega
 |some j=>have:=(mJ h).1; dsimp only; omega
theorem Tj {B:Þ} (h:Ċ B) (hn:∀g∈B.2.1,I64 g.2.2.2.2.1.1) (s:Sys) (n:Int×Int):ζ (B,s) n=some (A5 B n.1 n.2):=by
 unfold ζ D8;rw[show Ŝ (B,s).1 n=Ŝ B n from rfl,Tw (h.inn hn),À,EL h]
 split
 ·rename_i e; rw[e]
 ·rfl
theorem afQ {B:Þ} {L:List Lk} {N:Nat} (h:Ą L N) {to from':Int} (h1:0≤to∧to<N) (h2:0≤from'∧from'<N):ĉ (B,(N:Int),L) to from'=some (ix L N from' to).1:=by
 unfold ĉ sV;rw[show(B,(N:Int),L).2=((N:Int),L) from rfl,Oq h h2 h1,À]
def NR (B:Þ):Sys:=(((Ì B).length:Int)+1,Ø B)
def ao9 (B:Þ) (s t:Int):Int:=dst (Ø B) ((Ì B).length+1) s t
def ivR (B:Þ) (n:Int×Int):Int×Int:=(-(ao9 B (A5 B n.1 n.2) 0),ao9 B 0 (A5 B n.1 n.2))
theorem sJ (B:Þ):NR B=((((Ì B).length+1:Nat):Int),Ø B):=by unfold NR; push_cast; rfl
theorem jg (B:Þ):0≤(0:Int)∧(0:Int)<((Ì B).length+1:Nat):=by omega
section
variable {B:Þ} (h:asM B)
include h
theorem KZ {s t:Int} (hs:0≤s∧s<((Ì B).length+1:Nat)) (ht:0≤t∧t<((Ì B).length+1:Nat)) : -9007199254740992≤ao9 B s t∧ao9 B s t≤9007199254740992 :=
 ajt h.good.sys h.good.tied h.op hs ht
theorem Bz {to from':Int} (h1:0≤to∧to<((Ì B).length+1:Nat)) (h2:0≤from'∧from'<((Ì B).length+1:Nat)):ĉ (B,NR B) to from'=some (ao9 B from' to):=by
 rw[sJ,afQ h.good.sys h1 h2,BC h.good.sys h.good.tied h2 h1,if_pos h.op];rfl
theorem Xb (n:Int×Int):ε (B,NR B) n=some (-(ao9 B (A5 B n.1 n.2) 0)):=by
 unfold ε sU;have hb:=KZ h (Χ B n) (jg B);rw[Tj h.good h.num,À,Bz h (jg B) (Χ B n),À,Ò (by omega) (by omega)];congr 1;omega
theorem HI (n:Int×Int):iu (B,NR B) n=some (ao9 B 0 (A5 B n.1 n.2)):=by
 unfold iu mX;rw[Tj h.good h.num,À,Bz h (Χ B n) (jg B),À]
theorem wE (n:Int×Int):ŧ (B,NR B) n=some (ivR B n):=by
 unfold ŧ mW;rw[Xb h,À,HI h,À];rfl
end
def IH (b:Þ) (n:Int×Int):(Int×Int)×Int:=if (ě b [n]).2≠0 then((0,0),(ě b [n]).2) else(ivR (ě b [n]).1 n,0)
theorem Tv {b:Þ} (hI:In b) (n:Int×Int):og b n=some (IH b n):=by
 unfold og zy IH;refine(vt hI (ns:=[n]) (by simp) (fun e=>some (((0,0):Int×Int),e)) (fun e he=>by rw[ğ (by simp[ine,he])]) (fun z he=>by rw[ğ (by simp[ine,he])]) (fun _ _ _=>rfl)).trans ?_
 split
 ·rfl
 ·rename_i e;have hr:=(nB hI (by simpa using e)).1;dsimp only;rw[Ae,show((((Ì (ě b [n]).1).length:Int)+1,Ø (ě b [n]).1):Sys)=NR (ě b [n]).1 from rfl,wE hr,À]
theorem alo {ρ:Type}:@s9 ρ=@Đ ρ:=rfl
theorem ap9 {ρ:Type}:@zx ρ=@Đ ρ:=rfl
def btR (B:Þ) (m n:Int×Int):Int×Int:=(-(ao9 B (A5 B m.1 m.2) (A5 B n.1 n.2)),ao9 B (A5 B n.1 n.2) (A5 B m.1 m.2))
def abP (b:Þ) (m n:Int×Int):(Int×Int)×Int:=if (ě b [m,n]).2≠0 then((0,0),(ě b [m,n]).2) else(btR (ě b [m,n]).1 m n,0)
theorem alD {b:Þ} (hI:In b) (m n:Int×Int):wS b m n=some (abP b m n):=by
 unfold wS Eg abP;rw[alo];refine(vt hI (ns:=[m,n]) (by simp) (fun e=>some (((0,0):Int×Int),e)) (fun e he=>by rw[ğ (by simp[ine,he])]) (fun z he=>by rw[ğ (by simp[ine,he])]) (fun _ _ _=>rfl)).trans ?_
 split
 ·rfl
 ·rename_i e;have hr:=(nB hI (by simpa using e)).1;dsimp only;generalize (ě b [m,n]).1=B at hr ⊢;have hb:=KZ hr (Χ B m) (Χ B n)
  rw[Ae,show((((Ì B).length:Int)+1,Ø B):Sys)=NR B from rfl,Tj hr.good hr.num,À,Tj hr.good hr.num,À,Bz hr (Χ B n) (Χ B m),À,
   Ò (by omega) (by omega),Bz hr (Χ B m) (Χ B n),À]
  unfold btR;rw[Int.zero_sub]
def qT (s l:Int×Int):Int:=if l.1≤s.1∧s.2≤l.2 then 1 else if s.2<l.1∨l.2<s.1 then 2 else 3
theorem V4 (s l:Int×Int):qF s l=some (qT s l):=by
 unfold qF D6 qT;simp only[Č,ile,ilt,decide_eq_true_eq]
 by_cases h1:l.1≤s.1<;>by_cases h2:s.2≤l.2<;>by_cases h3:s.2<l.1<;>by_cases h4:l.2<s.1<;>simp[h1,h2,h3,h4]
def ao2 (b:Þ) (n l:Int×Int):Int×Int:=if (ě b [n]).2≠0 then(0,(ě b [n]).2) else if l.2<l.1 then(0,1) else(qT (ivR (ě b [n]).1 n) l,0)
theorem aq9 {b:Þ} (hI:In b) (n l:Int×Int):H8 b n l=some (ao2 b n l):=by
 unfold H8 QV ao2;rw[ap9];refine(vt hI (ns:=[n]) (by simp) (fun e=>some ((0:Int),e)) (fun e he=>by rw[Ñ (by simp[ine,he])]) (fun z he=>by rw[Ñ (by simp[ine,he])]) (fun _ _ _=>rfl)).trans ?_
 split
 ·rfl
 ·rename_i e;have hr:=(nB hI (by simpa using e)).1;dsimp only
  by_cases hl:l.2<l.1
  ·rw[Ñ (by simp[igt,hl]),if_pos hl]
  ·rw[Î (by simp[igt]; omega),if_neg hl,Ae,show((((Ì (ě b [n]).1).length:Int)+1,Ø (ě b [n]).1):Sys)=NR (ě b [n]).1 from rfl,wE hr,À,V4,À]
def Tz (x y:List Int):List Int×List Int×Int:=if !mq x then([],[],1) else if !mq y then([],[],1) else(ç x y,ç y x,0)
def af4 {x y:List Int} (hx:x.length≤100000) (hy:y.length≤100000):uY x y=some (Tz x y):=by
 unfold uY KG Tz;rw[HC (by omega),À]
 cases mq x with
 |false=>rfl
 |true =>
  rw[HC (by omega),À]
  cases mq y with
  |false=>rfl
  |true =>
   rw[tm (by omega) (by omega),À,tm (by omega) (by omega),À];rfl
def afm (ls:List (List Int)) (i:Nat):(ls.take i).flatten.length≤ls.flatten.length:=by
 conv=>rhs; rw[←List.take_append_drop i ls,fP,dc]
 omega
def pK {ls:List (List Int)} (hl:ls.length≤1000000) (hf:ls.flatten.length≤1000000):í ls=some ls.flatten:=by
 have hk:∀n:Nat,n≤4000000→∀(f:Int→Option (List Int)),ck (n:Int) f=f n:=fun n h f=>Ò (by omega) (by omega) f
 have second:Í (fun(v9:(Val (.pair tI (.slice tI)))) kk12=>ð ls (Ö ls) v9.1 v9.2 (fun u10 u11=>kk12 (u10,u11)) (fun z8=>some z8)) ((0:Int),([]:List Int))=some ls.flatten:=by
  refine ë ls (fun i=>(ls.take i).flatten) (some ls.flatten) (f:=fun(v9:(Val (.pair tI (.slice tI)))) kk12=>ð ls (Ö ls) v9.1 v9.2 (fun u10 u11=>kk12 (u10,u11)) (fun z8=>some z8)) rfl (fun i x hi hx kn=>?_) (fun kn=>?_)
  ·try dsimp only
   unfold ð;have h1:=afm ls (i+1);rw[take_succ hx,List.flatten_append,List.length_append] at h1;simp only[List.flatten_cons,List.flatten_nil,List.append_nil] at h1;rw[Ð hi,Ç hx,Ë hi (by omega),take_succ hx,List.flatten_append];have:ã ((List.take i ls).flatten.length+x.length)=true:=Ó (by omega);rw[ğ this];simp
  ·try dsimp only
   unfold ð;rw[Ù];simp
 unfold í jl;refine ġ (fun x:Int×Int=>∃i:Nat,i≤ls.length∧x=(((ls.take i).flatten.length:Int),(i:Int))) (fun x=>ls.length-x.2.toNat) ?_ ⟨0,by omega,rfl⟩;rintro x ⟨i,hi,rfl⟩;rcases Nat.lt_or_ge i ls.length with h2|h2
 ·refine .inr ⟨(((ls.take (i+1)).flatten.length:Int),(i:Int)+1),⟨i+1,h2,by simp⟩,by simp; omega,fun kn=>?_⟩;obtain⟨x,hx⟩:∃x,ls[i]?=some x:=⟨_,cX h2⟩;have h1:=afm ls (i+1);rw[take_succ hx,fP,dc] at h1;simp only[f7,gy,dU] at h1
  try dsimp only
  unfold ĵ;rw[Ð h2,Ç hx,Ü]
  have e1:(((List.take i ls).flatten.length:Int)+(x.length:Int))=((List.take i ls).flatten.length+x.length:Nat):=by omega
  rw[e1,hk _ (by omega)]
  have:ilt ((((List.take i ls).flatten.length+x.length:Nat)):Int) 0=false:=by simp[ilt]; omega
  rw[Î this,Ë h2 (by omega),take_succ hx];simp
 ·refine .inl fun kn=>?_
  obtain rfl:i=ls.length:=by omega
  try dsimp only
  unfold ĵ;rw[Ù,List.take_length];have e2:ilt ((ls.flatten.length:Nat):Int) 0=false:=decide_eq_false (by omega);dsimp only;rw[Î e2,Int.sub_zero,hk _ (by omega)];rcases Nat.eq_zero_or_pos ls.flatten.length with h0|h0
  ·have:igt (ls.flatten.length:Int) 0=false:=decide_eq_false (by omega);rw[Î this];exact second
  ·have:igt (ls.flatten.length:Int) 0=true:=decide_eq_true (by omega);rw[Ñ this]
   have:((ilt (0:Int) (ls.flatten.length:Int))&&(ã (Int.toNat (ls.flatten.length:Int))))=true:=by
    rw[dt,Ó (by omega),fB];exact decide_eq_true (by omega)
   rw[ğ this];have:ile 0 (ā (List.replicate (Int.toNat (ls.flatten.length:Int)) (0:Int)))=true:=decide_eq_true (Int.natCast_nonneg _);rw[ğ this];exact second
def onP (day:Int) (ids:List Int):List (Int×Int):=ids.map fun id=>(id,day)
def al5 {day:Int} {ls:List (List Int)} (hl:ls.length≤1000000) (hf:ls.flatten.length≤1000000):H6 day ls=some (onP day ls.flatten):=by
 unfold H6 QK;rw[pK hl hf,À];refine ë ls.flatten (fun i=>onP day (ls.flatten.take i)) _ rfl (fun i x hi hx kn=>?_) (fun kn=>?_)
 ·try dsimp only
  unfold rR;rw[Ð hi,Ç hx,Ë hi (by omega),take_succ hx];have:ã (List.length (onP day (ls.flatten.take i))+List.length ([(x,day)]))=true:=Ó (by simp[onP]; omega);rw[ğ this];simp[onP]
 ·try dsimp only
  unfold rR;rw[Ù,List.take_length]
def apy {l:List Int} (hl:l.length≤100000) (m:Int):Og l m=some (mq l&&decide ((l.length:Int)≤m)):=by
 unfold Og ZE;rw[af4 hl (by simp),À]
 have e0:mq []=true:=by decide
 unfold Tz;rw[e0,Ü]
 cases mq l<;>rfl
def arU (n:Int):H7 n=some (Il n):=by
 unfold H7 QO Il inP;rw[Č]
 by_cases h:0≤n
 ·rw[if_pos (by simpa[ige] using h)]; simp[h]
 ·rw[if_neg (by simpa[ige] using h)]; simp[h]
def aa5 {ρ α:Type} (l:List α) (i:Int) (f:α→Option ρ):è ((ile (0:Int) i)&&(ilt i (ā l))) (Ĩ l (Int.toNat i) f)=ï l i f:=by
 unfold ï
 by_cases h0:0≤i
 ·by_cases h1:i<l.length
  ·have e:((ile (0:Int) i)&&(ilt i (ā l)))=true:=by simp[ile,ilt,h0,h1]
   rw[ğ e];simp only[h0,decide_true];unfold Ĩ;rfl
  ·have e:((ile (0:Int) i)&&(ilt i (ā l)))=false:=by simp[ile,ilt,h1]
   rw[e];simp only[h0,decide_true];rw[fW (by omega)];rfl
 ·have e:((ile (0:Int) i)&&(ilt i (ā l)))=false:=by simp[ile,ilt,h0]
  rw[e];simp only[h0,decide_false];rfl
def ar4 {ρ:Type} (ns:List (Int×Int)) (n:Int):@vU ρ ns n=@Đ ρ n ns:=by
 funext v0 v1 v2 v3 v4 v5 v6 v7 kn k0 k1;unfold vU Đ;rw[aa5]
def aiy (B:Þ) (ns:List (Int×Int)) (s:Int×Int):Int×Int:=ns.foldl (fun s n=>(s.1+(ivR B n).1,s.2+(ivR B n).2)) s
def pileR (B:Þ) (f:Int×Int) (ns:List (Int×Int)):Int×Int:=aiy B ns (((ns.length:Int)-1)*f.1,((ns.length:Int)-1)*f.2)
def asR (b:Þ) (day:Int) (ids:List Int):(Int×Int)×Int :=
 if â b≠0 then((0,0),â b) else if ids.length=0∨mq ids=false∨Il day=false then((0,0),1) else
 if (ě b (onP day ids)).2≠0 then((0,0),(ě b (onP day ids)).2) else(pileR (ě b (onP day ids)).1 b.1 (onP day ids),0)
def agf (B:Þ) (x y:List (Int×Int)) (s:Int×Int):aiy B (x++y) s=aiy B y (aiy B x s):=by unfold aiy; rw[List.foldl_append]
def alW {B:Þ} (h:asM B):∀(ns:List (Int×Int)) (s:Int×Int) (m:Int),-m≤s.1∧s.1≤m→-m≤s.2∧s.2≤m →
 (-(m+ns.length*9007199254740992)≤(aiy B ns s).1∧(aiy B ns s).1≤m+ns.length*9007199254740992)∧(-(m+ns.length*9007199254740992)≤(aiy B ns s).2∧(aiy B ns s).2≤m+ns.length*9007199254740992)
 |[],s,m,h1,h2=>by unfold aiy; simp; omega
 |n::t,s,m,h1,h2=>by
  have b1:=KZ h (Χ B n) (jg B);have b2:=KZ h (jg B) (Χ B n);have:=alW h t (s.1+(ivR B n).1,s.2+(ivR B n).2) (m+9007199254740992) (by unfold ivR; dsimp only; omega) (by unfold ivR; dsimp only; omega);show(-(m+((n::t).length:Nat)*9007199254740992)≤(aiy B t _).1∧_)∧_;unfold aiy at this ⊢;simp only[List.foldl_cons,List.length_cons];push_cast;omega
def asQ {b:Þ} (hI:In b) (day:Int) {ids:List Int} (hl:ids.length≤1000):Oh b day ids=some (asR b day ids):=by
 unfold Oh ZW asR;rw[jo hI.size hI.num,À,apy (by omega),À,arU,À,Ü]
 by_cases hc:â b=0
 ·rw[Î (by simp[ine,hc]),if_neg (show ¬(â b≠0) from fun h=>h hc)]
  by_cases h0:ids.length=0
  ·rw[Ñ (by simp[ieq,h0]),if_pos (.inl h0)]
  ·rw[Î (beq_eq_false_iff_ne.2 (by omega))]
   by_cases h1:mq ids=true
   ·have hp:=(EZ ids).1 h1
    have e1:(mq ids&&decide ((ids.length:Int)≤6))=true:=by rw[h1]; simp; omega
    rw[e1,Î (by rfl)]
    by_cases h2:Il day=true
    ·have hg:=(ê b).1 hc;rw[Î (by rw[h2]; rfl),if_neg (by simp[h0,h1,h2]),al5 (by simp) (by simp; omega),À]
     have hlen:(onP day ids).length=ids.length:=by simp[onP]
     rw[show([ids]:List (List Int)).flatten=ids by simp,ar4,←jo hI.size hI.num];refine(vt hI (ns:=onP day ids) (by omega) (fun e=>some (((0,0):Int×Int),e)) (fun e he=>by rw[Ñ (by simp[ine,he])]) (fun z he=>by rw[Ñ (by simp[ine,he])]) (fun _ _ _=>rfl)).trans ?_
     split
     ·rfl
     ·rename_i e;have hr:=(nB hI (by simpa using e)).1;have hf:=hg.film;dsimp only;generalize (ě b (onP day ids)).1=B at hr ⊢
      have hm:∀x:Int,0≤x→x≤1000000→0≤((ids.length:Int)-1)*x∧((ids.length:Int)-1)*x≤10000000:=by
       intro x h0 h1;have:((ids.length:Int)-1)*x≤5*1000000:=fF (by omega) h1 h0 (by omega);exact⟨f9 (by omega) h0,by omega⟩
      have m1:=hm b.1.1 (by omega) (by omega);have m2:=hm b.1.2 (by omega) (by omega);rw[Ò (by omega) (by omega),Ò (by omega) (by omega),Ò (by omega) (by omega),Ae,show((((Ì B).length:Int)+1,Ø B):Sys)=NR B from rfl];unfold pileR;rw[hlen];refine ë (onP day ids) (fun i=>aiy B ((onP day ids).take i) (((ids.length:Int)-1)*b.1.1,((ids.length:Int)-1)*b.1.2)) _ rfl (fun i n hi hn kn=>?_) (fun kn=>?_)
      ·try dsimp only
       unfold vT;have b1:=KZ hr (Χ B n) (jg B);have b2:=KZ hr (jg B) (Χ B n);have bs:=alW hr ((onP day ids).take i) (((ids.length:Int)-1)*b.1.1,((ids.length:Int)-1)*b.1.2) 10000000 (by dsimp only; omega) (by dsimp only; omega)
       have bl:(((onP day ids).take i).length:Int)≤6:=by rw[dm]; omega
       rw[Ð hi,Ç hn,wE hr,À,take_succ hn,agf];generalize aiy B ((onP day ids).take i) (((ids.length:Int)-1)*b.1.1,((ids.length:Int)-1)*b.1.2)=s at bs ⊢;unfold ivR;dsimp only;rw[Ò (by omega) (by omega),Ò (by omega) (by omega),Ë hi (by omega)];rfl
      ·try dsimp only
       unfold vT;rw[Ù,List.take_length]
    ·have h2':Il day=false:=by simpa using h2
     rw[h2',Ñ (by rfl),if_pos (.inr (.inr rfl))]
   ·have h1':mq ids=false:=by simpa using h1
    rw[h1',Ñ (by rfl),if_pos (.inr (.inl rfl))]
 ·rw[Ñ (by simp[ine,hc]),if_pos hc]
def qB {α:Type} (p:α→Bool) (l:List α) (i:Nat):((l.take i).filter p).length≤l.length:=by
 have h1:=dR p (l.take i);rw[dm] at h1;omega
def WD (x y:Int) (g:Bool):∀m:List (Int×Bool),tV (k:=tI) (v:=.bool) x (N1 (k:=tI) (v:=.bool) y g m)=if x=y then some g else tV (k:=tI) (v:=.bool) x m
 |[]=>by
  unfold N1 tV kZ tV
  by_cases h:x=y<;>simp[h]
 |e::m=>by
  unfold N1
  by_cases h:y=e.1
  ·have:kZ tI y e.1=true:=by simp[kZ,h]
   rw[this]
   try dsimp only
   unfold tV kZ
   by_cases h2:x=y
   ·simp[h2]
   ·have:¬x=e.1:=fun h3=>h2 (h3.trans h.symm);simp[h2,this]
  ·have:kZ tI y e.1=false:=by simp[kZ,h]
   rw[this]
   try dsimp only
   have ih:=WD x y g m;unfold tV
   by_cases h2:x=e.1
   ·have:kZ tI x e.1=true:=by simp[kZ,h2]
    rw[this];have:¬x=y:=fun h3=>h (h3.symm.trans h2);simp[this]
   ·have:kZ tI x e.1=false:=by simp[kZ,h2]
    rw[this];exact ih
def TG (l:List Int):List (Int×Bool):=l.foldl (fun m x=>N1 (k:=tI) (v:=.bool) x true m) []
def yc (l:List Int) (x:Int):TG (l++[x])=N1 (k:=tI) (v:=.bool) x true (TG l):=by unfold TG; rw[List.foldl_append]; rfl
def ac6 (x:Int):∀(l:List Int) (m:List (Int×Bool)),tV (k:=tI) (v:=.bool) x (l.foldl (fun m x=>N1 (k:=tI) (v:=.bool) x true m) m)=if l.contains x then some true else tV (k:=tI) (v:=.bool) x m
 |[],m=>by simp
 |y::l,m=>by
  rw[fU,ac6 x l,WD]
  by_cases h:x=y
  ·subst h; simp
  ·simp[h]
def ac4 (l:List Int) (x:Int):tV (k:=tI) (v:=.bool) x (TG l)=if l.contains x then some true else none:=ac6 x l []
def xZ (b:Þ) (s:Int×Int):List Int:=if s.1=3 then(match b.2.2.2.2.1[s.2.toNat]? with|some c=>c.2.2.1++c.2.2.2.1|none=>[]) else(match b.2.1[s.2.toNat]? with|some g=>[g.1]|none=>[])
def Io (b:Þ) (ss looks:List (Int×Int)):List Int:=ss.flatMap (xZ b)++looks.map fun n=>n.1
def Bq (ss:List (Int×Int)):List Int:=(ss.filter fun s=>s.1==3).map fun s=>s.2
def tp (w:List Int):Nat→List Cmp→List Cmp
 |_,[]=>[]
 |i,c::t=>if w.contains (i:Int) then c::tp w (i+1) t else tp w (i+1) t
def SQ (b:Þ) (ss looks:List (Int×Int)):Þ :=
 (b.1,b.2.1.filter fun g=>(Io b ss looks).contains g.1,b.2.2.1.filter fun u=>(Io b ss looks).contains u.1,b.2.2.2.1.filter fun l=>(Io b ss looks).contains l.1,tp (Bq ss) 0 b.2.2.2.2.1,looks)
def aqZ (b:Þ) (s:Int×Int):Prop:=((s.1=1∨s.1=2)∧0≤s.2∧s.2<b.2.1.length)∨(s.1=3∧0≤s.2∧s.2<b.2.2.2.2.1.length)
def Xc (w:List Int) (c:Cmp):∀(l:List Cmp) (i:Nat),tp w i (l++[c])=tp w i l++if w.contains ((i+l.length:Nat):Int) then[c] else[]
 |[],i=>by simp only[fM,tp,dE,fN]
 |a::l,i=>by
  have e:((i+1+l.length:Nat):Int)=((i+(l.length+1):Nat):Int):=by congr 1; omega
  simp only[ff,tp,Xc w c l (i+1),dj,e]
  split<;>rfl
def Sd (w:List Int):∀(l:List Cmp) (i:Nat),(tp w i l).length≤l.length
 |[],i=>by simp[tp]
 |a::l,i=>by
  have:=Sd w l (i+1);simp only[tp]
  split<;>simp only[dj]<;>omega
def zZ {ρ:Type} (x:Int) (l:List Int) (f:Bool→Option ρ) (g:Option ρ):abR (k:=tI) (v:=.bool) x (TG l) f g=if l.contains x then f true else g:=by
 unfold abR;rw[ac4]
 by_cases h:l.contains x=true
 ·rw[if_pos h,if_pos h]
 ·rw[if_neg h,if_neg h]
section
variable {ρ:Type}
def cut_L3 (l:List (Int×Int)) (hl:l.length≤1000) (ids:List Int) (K:List (Int×Int)→Option ρ):Í (fun(v47:(Val (.pair tI (.slice Â)))) kk50=>uj l (Ö l) (TG ids) v47.1 v47.2 (fun u48 u49=>kk50 (u48,u49)) K) ((0:Int),[])=K (l.filter fun u=>ids.contains u.1):=by
 refine ë l (fun i=>(l.take i).filter fun u=>ids.contains u.1) _ rfl (fun i a hi ha kn=>?_) (fun kn=>?_)
 ·try dsimp only
  unfold uj;have h1:=qB (fun u:Int×Int=>ids.contains u.1) l i;rw[Ð hi,Ç ha,zZ,take_succ ha,List.filter_append]
  by_cases h:ids.contains a.1=true
  ·rw[if_pos h,ė,ğ (Ó (by simp only[dK]; omega)),Ë hi (by omega)];simp only[ej,eA,h,if_pos]
  ·rw[if_neg h,Ë hi (by omega)];simp only[ej,eA,h,if_neg,dv,not_false_eq_true,dU]
 ·try dsimp only
  unfold uj;rw[Ù,List.take_length]
def cut_L4 (l:List IG) (hl:l.length≤1000) (ids:List Int) (K:List IG→Option ρ):Í (fun(v47:(Val (.pair tI (.slice Ń)))) kk50=>uh l (Ö l) (TG ids) v47.1 v47.2 (fun u48 u49=>kk50 (u48,u49)) K) ((0:Int),[])=K (l.filter fun u=>ids.contains u.1):=by
 refine ë l (fun i=>(l.take i).filter fun u=>ids.contains u.1) _ rfl (fun i a hi ha kn=>?_) (fun kn=>?_)
 ·try dsimp only
  unfold uh;have h1:=qB (fun u:IG=>ids.contains u.1) l i;rw[Ð hi,Ç ha,zZ,take_succ ha,List.filter_append]
  by_cases h:ids.contains a.1=true
  ·rw[if_pos h,ė,ğ (Ó (by simp only[dK]; omega)),Ë hi (by omega)];simp only[ej,eA,h,if_pos]
  ·rw[if_neg h,Ë hi (by omega)];simp only[ej,eA,h,if_neg,dv,not_false_eq_true,dU]
 ·try dsimp only
  unfold uh;rw[Ù,List.take_length]
def cut_L5 (l:List Cmp) (hl:l.length≤1000) (hp:∀c∈l,c.2.2.1.length≤1000∧c.2.2.2.1.length≤1000) (w:List Int) (K:List Cmp→Option ρ):Í (fun(v47:(Val (.pair tI (.slice È)))) kk50=>ug l (Ö l) (TG w) v47.1 v47.2 (fun u48 u49=>kk50 (u48,u49)) K) ((0:Int),[])=K (tp w 0 l):=by
 refine ë l (fun i=>tp w 0 (l.take i)) _ rfl (fun i a hi ha kn=>?_) (fun kn=>?_)
 ·try dsimp only
  unfold ug;have h1:=Sd w (l.take i) 0;have h2:=hp a (List.mem_of_getElem? ha)
  have e:(l.take i).length=i:=by rw[dm]; omega
  rw[Ð hi,Ç ha,zZ,take_succ ha,Xc,e,du]
  by_cases h:w.contains (i:Int)=true
  ·rw[if_pos h,if_pos h,ė,ğ (Ó (by omega)),ğ (Ó (by omega)),ğ (Ó (by simp only[dK]; omega)),Ë hi (by omega)]
  ·rw[if_neg h,if_neg h,Ë hi (by omega)];simp only[dU]
 ·try dsimp only
  unfold ug;rw[Ù,List.take_length]
def cut_L2 (looks:List (Int×Int)) (hl:looks.length≤1000) (ids:List Int) (K:List (Int×Bool)→Option ρ):Í (fun(v51:(Val (.pair tI (.map tI .bool)))) kk54=>uk looks (Ö looks) v51.1 v51.2 (fun u52 u53=>kk54 (u52,u53)) K) ((0:Int),TG ids)=K (TG (ids++looks.map fun n=>n.1)):=by
 refine ë looks (fun i=>TG (ids++(looks.take i).map fun n=>n.1)) _ (by simp) (fun i a hi ha kn=>?_) (fun kn=>?_)
 ·try dsimp only
  unfold uk;rw[Ð hi,Ç ha,Ë hi (by omega),take_succ ha,List.map_append,←List.append_assoc,List.map_singleton,yc]
 ·try dsimp only
  unfold uk;rw[Ù,List.take_length]
def cut_L1 (xs:List Int) (hl:xs.length≤10000) (ids:List Int) (K:List (Int×Bool)→Option ρ):Í (fun(v13:(Val (.pair tI (.map tI .bool)))) kk16=>un xs (Ö xs) v13.1 v13.2 (fun u14 u15=>kk16 (u14,u15)) K) ((0:Int),TG ids)=K (TG (ids++xs)):=by
 refine ë xs (fun i=>TG (ids++xs.take i)) _ (by simp) (fun i a hi ha kn=>?_) (fun kn=>?_)
 ·try dsimp only
  unfold un;rw[Ð hi,Ç ha,Ë hi (by omega),take_succ ha,←List.append_assoc,yc]
 ·try dsimp only
  unfold un;rw[Ù,List.take_length]
end
def ip {ρ α:Type} {l:List α} {i:Int} (h0:0≤i) {a:α} (h:l[i.toNat]?=some a) (f:α→Option ρ):ï l i f=f a:=by
 obtain⟨n,rfl⟩:=gP h0;exact Ç (by simpa using h) f
def arw {b:Þ} (hs:ľ b) {ss looks:List (Int×Int)} (h1:ss.length≤1000) (h2:looks.length≤1000) (hv:∀s∈ss,aqZ b s):SD b ss looks=some (SQ b ss looks):=by
 have g1:=hs.gauges; have g2:=hs.uses; have g3:=hs.loans; have g4:=hs.compares; have g5:=hs.looks;unfold SD amQ Gu;refine ë ss (fun i=>(TG ((ss.take i).flatMap (xZ b)),TG (Bq (ss.take i)))) _ rfl (fun i s hi ha kn=>?_) (fun kn=>?_)
 ·try dsimp only
  unfold AU;have hok:=hv s (List.mem_of_getElem? ha);rw[Ð hi,Ç ha,take_succ ha,List.flatMap_append]
  have e3:Bq (ss.take i++[s])=Bq (ss.take i)++if s.1=3 then[s.2] else[]:=by
   unfold Bq;rw[List.filter_append,List.map_append];congr 1
   by_cases h:s.1=3<;>simp[h]
  rw[e3];rcases hok with⟨hk,h0,h3⟩|⟨hk,h0,h3⟩
  ·have hg:b.2.1[s.2.toNat]?=some b.2.1[s.2.toNat]:=cX (by omega);generalize b.2.1[s.2.toNat]=g at hg
   have e1:xZ b s=[g.1]:=by
    unfold xZ;rw[if_neg (by omega),hg]
   have e2:List.flatMap (xZ b) [s]=[g.1]:=by simp[e1]
   rw[Î (decide_eq_false (by omega)),if_neg (by omega),dU,e2,yc];rcases hk with hk|hk
   ·rw[Ñ (decide_eq_true hk),ip h0 hg,Ë hi (by omega)]
   ·rw[Î (decide_eq_false (by omega)),Ñ (decide_eq_true hk),ip h0 hg,Ë hi (by omega)]
  ·have hc:b.2.2.2.2.1[s.2.toNat]?=some b.2.2.2.2.1[s.2.toNat]:=cX (by omega);have hp:=hs.piles b.2.2.2.2.1[s.2.toNat] (fC _);generalize b.2.2.2.2.1[s.2.toNat]=c at hc hp
   have e1:xZ b s=c.2.2.1++c.2.2.2.1:=by
    unfold xZ;rw[if_pos hk,hc]
   have e2:List.flatMap (xZ b) [s]=c.2.2.1++c.2.2.2.1:=by simp[e1]
   rw[Î (decide_eq_false (by omega)),Î (decide_eq_false (by omega)),Î (decide_eq_false (by omega)),ğ (decide_eq_true hk),if_pos hk,e2,ip h0 hc,ip h0 hc,pK (by simp) (by simp; omega),À];rw[show([c.2.2.1,c.2.2.2.1]:List (List Int)).flatten=c.2.2.1++c.2.2.2.1 by simp];refine(cut_L1 (c.2.2.1++c.2.2.2.1) (by simp; omega) _ _).trans ?_;rw[yc,Ë hi (by omega)]
 ·try dsimp only
  unfold AU;rw[Ù];dsimp only;rw[List.take_length];refine(cut_L2 looks h2 _ _).trans ?_;rw[show(ss.flatMap (xZ b)++looks.map fun n=>n.1)=Io b ss looks from rfl];unfold A4
  try dsimp only
  rw[ğ (Ó (by omega)),À]
  have ek:(List.filter (fun g=>(tV (k:=tI) (v:=.bool) g.1 (TG (Io b ss looks))).getD false) b.2.1)=b.2.1.filter fun g=>(Io b ss looks).contains g.1:=by
   refine List.filter_congr fun g _=>?_;rw[ac4]
   cases(Io b ss looks).contains g.1<;>rfl
  rw[ek];unfold nO;dsimp only;refine(cut_L3 b.2.2.1 g2 _ _).trans ?_;refine(cut_L4 b.2.2.2.1 g3 _ _).trans ?_;refine(cut_L5 b.2.2.2.2.1 g4 hs.piles _ _).trans ?_;rfl
def ET {α:Type} [DecidableEq α] {l m:List α} (hl:l.length=m.length) (h:ģ (fun i a=>if m[i]?=some a then none else some false) 0 l=none):l=m:=by
 have:=iP.1 h;refine gU hl fun i h1 h2=>?_;have h3:=this i l[i] (cX h1);rw[du] at h3
 split at h3
 ·rename_i h4;rw[cX h2] at h4;exact(Option.some.inj h4).symm
 ·cases h3
def ES {α:Type} [DecidableEq α] {l m:List α} {b:Bool} (h:ģ (fun i a=>if m[i]?=some a then none else some false) 0 l=some b):b=false∧l≠m:=by
 constructor
 ·have:∀(k:Nat) (x:List α) (b:Bool),ģ (fun i a=>if m[i]?=some a then none else some false) k x=some b→b=false:=by
   intro k x
   induction x generalizing k with
   |nil=>intro b h; cases h
   |cons a t ih =>
    intro b h;unfold ģ at h
    split at h
    ·rename_i c hc
     split at hc
     ·cases hc
     ·cases hc; cases h; rfl
    ·exact ih _ _ h
  exact this _ _ _ h
 ·intro e;subst e;rw[iP.2 fun j a ha=>by rw[du,if_pos ha]] at h;cases h
instance dec1:DecidableEq ((Int×Int)×Int):=fun a b=>instDecidableEqProd a b
instance dec2:DecidableEq ((Int×Int)×((Int×Int)×Int)):=fun a b=>instDecidableEqProd a b
instance dec3:DecidableEq (Int×(Int×Int)×((Int×Int)×Int)):=fun a b=>instDecidableEqProd a b
instance dec4:DecidableEq (Int×Int×(Int×Int)×((Int×Int)×Int)):=fun a b=>instDecidableEqProd a b
instance decG:DecidableEq é:=fun a b=>instDecidableEqProd a b
instance decL:DecidableEq IG:=fun a b=>instDecidableEqProd a b
instance decI4:DecidableEq (Int×(Int×(Int×Int))):=fun a b=>instDecidableEqProd a b
instance decI5:DecidableEq (List Int×Int×(Int×(Int×Int))):=fun a b=>instDecidableEqProd a b
instance decI6:DecidableEq (List Int×List Int×Int×(Int×(Int×Int))):=fun a b=>instDecidableEqProd a b
instance decI7:DecidableEq (Int×List Int×List Int×Int×(Int×(Int×Int))):=fun a b=>instDecidableEqProd a b
instance decC:DecidableEq Cmp:=fun a b=>instDecidableEqProd a b
def rf {α:Type} [DecidableEq α] (x:α) (l:List α):Bool:=l.any fun a=>decide (x=a)
def N2 {α:Type} [DecidableEq α] {x:α} {l:List α}:rf x l=true↔x∈l:=by
 unfold rf;rw[List.any_eq_true];exact⟨fun⟨a,h1,h2⟩=>by rw[of_decide_eq_true h2]; exact h1,fun h=>⟨x,h,decide_eq_true rfl⟩⟩
def agE {α:Type} [DecidableEq α] (l:List α) (x:α):ige (match l.findIdx? (fun a=>decide (x=a)) with|some j=>(j:Int)|none=>-1) 0=rf x l:=by
 cases h:l.findIdx? (fun a=>decide (x=a)) with
 |none =>
  have:rf x l=false:=by
   cases hm:rf x l with
   |false=>rfl
   |true=>have:=dT.1 h x (N2.1 hm); simp at this
  rw[this];rfl
 |some j =>
  obtain⟨hj,hp,_⟩:=dL.1 h
  have:x∈l:=by rw[of_decide_eq_true hp]; exact fC _
  rw[N2.2 this];exact decide_eq_true (by dsimp only; omega)
def amL {ρ:Type} (o:Option Nat) (f:Int→Option ρ):(match o with|some j=>f (j:Int)|none=>f (-1))=f (match o with|some j=>(j:Int)|none=>-1):=by cases o<;>rfl
def af2 {l:List (Int×Int)} (hl:l.length≤1000000) (x:Int×Int):Ę l x=some (rf x l):=by
 unfold Ę Ş δ Υ
 have e:Í (fun(v5:Int) kk7=>ĕ l (Ö l) x.1 x.2 v5 (fun u6=>kk7 u6) (fun z3=>some z3) (fun _=>some (-1:Int))) (0:Int)=some (match l.findIdx? (fun a=>decide (x=a)) with|some j=>(j:Int)|none=>-1):=by
  refine(ś l (fun a=>decide (x=a)) (fun z=>some z) (some (-1)) (fun i a hi ha kn=>?_) (fun kn=>?_)).trans (amL _ some)
  ·try dsimp only
   unfold ĕ
   have e:((õ x.1 a.1)&&((õ x.2 a.2)&&true))=decide (x=a):=by
    rw[dO]; simp[õ,fK]
   rw[Ð hi,Ç ha,Ë hi (by omega),Č,e]
  ·try dsimp only
   unfold ĕ;rw[Ù]
 rw[e,À];exact congrArg some (agE l x)
def abO {l:List IG} (hl:l.length≤1000000) (x:IG):č l x=some (rf x l):=by
 unfold č Ŏ Ų ů
 have e:Í (fun(v5:Int) kk7=>ċ l (Ö l) x.1 x.2.1.1 x.2.1.2 x.2.2 v5 (fun u6=>kk7 u6) (fun z3=>some z3) (fun _=>some (-1:Int))) (0:Int)=some (match l.findIdx? (fun a=>decide (x=a)) with|some j=>(j:Int)|none=>-1):=by
  refine(ś l (fun a=>decide (x=a)) (fun z=>some z) (some (-1)) (fun i a hi ha kn=>?_) (fun kn=>?_)).trans (amL _ some)
  ·try dsimp only
   unfold ċ
   have e:((õ x.1 a.1)&&((õ x.2.1.1 a.2.1.1)&&((õ x.2.1.2 a.2.1.2)&&((õ x.2.2 a.2.2)&&true))))=decide (x=a):=by
    rw[dO]; simp[õ,fK,and_assoc]
   rw[Ð hi,Ç ha,Ë hi (by omega),Č,e]
  ·try dsimp only
   unfold ċ;rw[Ù]
 rw[e,À];exact congrArg some (agE l x)
def af3 {l:List é} (hl:l.length≤1000000) (x:é):Ĝ l x=some (rf x l):=by
 unfold Ĝ Ł ř Ř
 have e:Í (fun(v5:Int) kk7=>Ā l (Ö l) x.1 x.2.1 x.2.2.1 x.2.2.2.1.1 x.2.2.2.1.2 x.2.2.2.2.1.1 x.2.2.2.2.1.2 x.2.2.2.2.2 v5 (fun u6=>kk7 u6) (fun z3=>some z3) (fun _=>some (-1:Int))) (0:Int)=some (match l.findIdx? (fun a=>decide (x=a)) with|some j=>(j:Int)|none=>-1):=by
  refine(ś l (fun a=>decide (x=a)) (fun z=>some z) (some (-1)) (fun i a hi ha kn=>?_) (fun kn=>?_)).trans (amL _ some)
  ·try dsimp only
   unfold Ā
   have e:((õ x.1 a.1)&&((õ x.2.1 a.2.1)&&((õ x.2.2.1 a.2.2.1)&&((õ x.2.2.2.1.1 a.2.2.2.1.1)&&((õ x.2.2.2.1.2 a.2.2.2.1.2)&&((õ x.2.2.2.2.1.1 a.2.2.2.2.1.1)&&((õ x.2.2.2.2.1.2 a.2.2.2.2.1.2)&&((õ x.2.2.2.2.2 a.2.2.2.2.2)&&true))))))))=decide (x=a):=by
    rw[dO]; simp[õ,fK,and_assoc]
   rw[Ð hi,Ç ha,Ë hi (by omega),Č,e]
  ·try dsimp only
   unfold Ā;rw[Ù]
 rw[e,À];exact congrArg some (agE l x)
def oJ (b:Þ):List Int:=b.2.1.map fun g=>g.1
def Ν {α:Type} [DecidableEq α] (x y:List α) (w:α→Bool):Bool:=x.all fun a=>!w a||rf a y
def E7 (s b:Þ):Bool :=
 Ν s.2.2.2.2.1 b.2.2.2.2.1 (fun _=>true)&&(decide (s.1=b.1)&&(Ν s.2.1 b.2.1 (fun _=>true)&&(Ν s.2.2.1 b.2.2.1 (fun u=>(oJ s).contains u.1)&&(Ν b.2.2.1 s.2.2.1 (fun u=>(oJ s).contains u.1) &&
  (Ν s.2.2.2.1 b.2.2.2.1 (fun u=>(oJ s).contains u.1)&&Ν b.2.2.2.1 s.2.2.2.1 (fun u=>(oJ s).contains u.1))))))
section
variable {ρ:Type}
def Le {α:Type} [DecidableEq α] (x y:List α) (w:α→Bool) (X Y KF:Option ρ) {f:Int→(Int→Option ρ)→Option ρ}
 (h:∀(i:Nat) (a:α),i<x.length→x[i]?=some a→∀kn,f i kn=if !(!w a||rf a y) then(ifb (!(ige (i:Int) 0)) X KF) else kn ((i:Int)+1))
 (hn:∀kn,f x.length kn=Y):Í f 0=if Ν x y w then Y else KF:=by
 refine(Ģ x (fun a=>!(!w a||rf a y)) (fun z=>ifb (!(ige z 0)) X KF) KF Y (fun j=>by rw[show ige (j:Int) 0=true from decide_eq_true (by omega)]; rfl) h hn).trans ?_;unfold Ν;rw[List.all_eq_not_any_not]
 cases x.any fun a=>!(!w a||rf a y)<;>rfl
def ar7:@vM ρ=@mZ ρ:=rfl
def W8 {x y:List Int} (hl:x.length=y.length) (hx:x.length≤1000000) (k0:Bool→Option ρ) (K:Option ρ) :
 Í (fun(v30:Int) kk32=>mZ x y (Ö x) v30 (fun u31=>kk32 u31) k0 (fun _=>K)) (0:Int)=if x=y then K else k0 false:=by
 refine(ij x (fun i a=>if y[i]?=some a then none else some false) k0 K (fun i a hi ha kn=>?_) (fun kn=>?_)).trans ?_
 ·try dsimp only
  unfold mZ;have hm:y[i]?=some y[i]:=List.getElem?_eq_getElem (by omega);rw[Ð hi,Ç ha,Ç hm,Ë hi (by omega),hm,Č]
  by_cases h:a=y[i]
  ·simp[ine,h]
  ·have h':¬y[i]=a:=fun e=>h e.symm;simp[ine,h,h']
 ·try dsimp only
  unfold mZ;rw[Ù]
 ·cases h:ģ (fun i a=>if y[i]?=some a then none else some false) 0 x with
  |none=>rw[if_pos (ET hl h)]
  |some b =>
   obtain⟨h1,h2⟩:=ES h;rw[if_neg h2,h1]
def amb {l:List Cmp} (hl:l.length≤1000) (c:Cmp) (hA:c.2.2.1.length≤1000) (hB:c.2.2.2.1.length≤1000) (k0:Int→Option ρ) (K1 KF:Option ρ) (hk:∀j:Nat,k0 (j:Int)=K1) :
 Í (fun(v41:Int) kk43=>qo l (Ö l) c.1 c.2.1 c.2.2.1 c.2.2.2.1 c.2.2.2.2.1 c.2.2.2.2.2.1 c.2.2.2.2.2.2.1 c.2.2.2.2.2.2.2 v41 (fun u42=>kk43 u42) k0 (fun _=>KF)) (0:Int)=if rf c l then K1 else KF:=by
 refine(Ģ l (fun d=>decide (c=d)) k0 K1 KF hk (fun i d hi hd kn=>?_) (fun kn=>?_)).trans rfl
 ·try dsimp only
  unfold qo
  have hsplit:(c=d)↔(c.1=d.1∧c.2.1=d.2.1∧c.2.2.2.2.1=d.2.2.2.2.1∧c.2.2.2.2.2.1=d.2.2.2.2.2.1∧(c.2.2.2.2.2.2.1=d.2.2.2.2.2.2.1∧c.2.2.2.2.2.2.2=d.2.2.2.2.2.2.2)∧c.2.2.1=d.2.2.1∧c.2.2.2.1=d.2.2.2.1):=by
   simp only[fK];constructor
   ·rintro⟨a1,a2,a3,a4,a5,a6,a7,a8⟩; exact⟨a1,a2,a5,a6,⟨a7,a8⟩,a3,a4⟩
   ·rintro⟨a1,a2,a5,a6,⟨a7,a8⟩,a3,a4⟩; exact⟨a1,a2,a3,a4,a5,a6,a7,a8⟩
  have hno:∀{P:Prop},¬P→(c=d→P)→(if decide (c=d)=true then k0 (i:Int) else kn ((i:Int)+1))=kn ((i:Int)+1):=fun h1 h2=>by
   rw[if_neg];intro h;exact h1 (h2 (of_decide_eq_true h))
  rw[Ð hi,Ç hd,Ë hi (by omega)]
  by_cases a1:c.1=d.1
  case neg=>rw[hno a1 (fun e=>(hsplit.1 e).1),Î (beq_eq_false_iff_ne.2 a1)]
  rw[Ñ (beq_iff_eq.2 a1)]
  by_cases a2:c.2.1=d.2.1
  case neg=>rw[hno a2 (fun e=>(hsplit.1 e).2.1),Î (beq_eq_false_iff_ne.2 a2)]
  rw[Ñ (beq_iff_eq.2 a2)]
  by_cases a3:c.2.2.2.2.1=d.2.2.2.2.1
  case neg=>rw[hno a3 (fun e=>(hsplit.1 e).2.2.1),Î (beq_eq_false_iff_ne.2 a3)]
  rw[Ñ (beq_iff_eq.2 a3)]
  by_cases a4:c.2.2.2.2.2.1=d.2.2.2.2.2.1
  case neg=>rw[hno a4 (fun e=>(hsplit.1 e).2.2.2.1),Î (beq_eq_false_iff_ne.2 a4)]
  rw[Ñ (beq_iff_eq.2 a4)]
  by_cases a5:c.2.2.2.2.2.2.1=d.2.2.2.2.2.2.1∧c.2.2.2.2.2.2.2=d.2.2.2.2.2.2.2
  case neg=>rw[hno a5 (fun e=>(hsplit.1 e).2.2.2.2.1),Î (by simp only[õ,fB,gw,decide_eq_false_iff_not]; exact Decidable.not_and_iff_or_not.1 a5)]
  rw[Ñ (by simp[õ,a5.1,a5.2]),Ü,Ü,Ü,Ü]
  have rest:∀X Y:Option ρ,(c.2.2.1=d.2.2.1)→(if decide (c=d)=true then k0 (i:Int) else kn ((i:Int)+1))=(if c.2.2.2.1=d.2.2.2.1 then k0 (i:Int) else kn ((i:Int)+1)):=by
   intro _ _ h
   by_cases g:c.2.2.2.1=d.2.2.2.1
   ·rw[if_pos (decide_eq_true (hsplit.2 ⟨a1,a2,a3,a4,a5,h,g⟩)),if_pos g]
   ·rw[if_neg g]; exact hno g (fun e=>(hsplit.1 e).2.2.2.2.2.2)
  by_cases l1:c.2.2.1.length=d.2.2.1.length
  case neg =>
   rw[hno l1 (fun e=>by rw[e]),Ñ (bne_iff_ne.2 (by omega))]
  rw[Î (by rw[l1]; exact bne_self_eq_false' _)];have e3:=W8 (ρ:=ρ) l1 (by omega);rw[Ü] at e3;rw[e3]
  by_cases g1:c.2.2.1=d.2.2.1
  case neg=>rw[if_neg g1,æ,hno g1 (fun e=>(hsplit.1 e).2.2.2.2.2.1)]
  rw[if_pos g1,rest none none g1]
  by_cases l2:c.2.2.2.1.length=d.2.2.2.1.length
  case neg =>
   rw[Ñ (bne_iff_ne.2 (by omega)),if_neg (fun e=>l2 (by rw[e]))]
  rw[Î (by rw[l2]; exact bne_self_eq_false' _),ar7];have e4:=W8 (ρ:=ρ) l2 (by omega);rw[Ü] at e4;rw[e4,æ]
 ·try dsimp only
  unfold qo;rw[Ù]
def ar6:@mY ρ=@kV ρ:=rfl
def ar5:@Ē ρ=@Ĺ ρ:=rfl
def asU {x y:List é} (hx:x.length≤1000) (hy:y.length≤1000) (X Y KF:Option ρ):Í (fun(v225:Int) kk227=>qn x (Ö x) y v225 (fun u226=>kk227 u226) (fun z=>ifb (!(ige z 0)) X KF) (fun _=>Y)) (0:Int)=if Ν x y (fun _=>true) then Y else KF:=by
 refine Le x y (fun _=>true) X Y KF (fun i a hi ha kn=>?_) (fun kn=>?_)
 ·try dsimp only
  unfold qn;rw[Ð hi,Ç ha,af3 (by omega),À,Ë hi (by omega),Č];simp
 ·try dsimp only
  unfold qn;rw[Ù]
def ao0 {x y:List (Int×Int)} (hx:x.length≤1000) (hy:y.length≤1000) (ids:List Int) (X Y KF:Option ρ):Í (fun(v225:Int) kk227=>kV x (Ö x) (TG ids) y v225 (fun u226=>kk227 u226) (fun z=>ifb (!(ige z 0)) X KF) (fun _=>Y)) (0:Int)=if Ν x y (fun u=>ids.contains u.1) then Y else KF:=by
 refine Le x y (fun u=>ids.contains u.1) X Y KF (fun i a hi ha kn=>?_) (fun kn=>?_)
 ·try dsimp only
  unfold kV;rw[Ð hi,Ç ha,zZ,af2 (by omega),À]
  by_cases h:ids.contains a.1=true
  ·rw[if_pos h,ė,Ë hi (by omega),Č,h];simp
  ·rw[if_neg h,Ë hi (by omega)];have h':=Bool.not_eq_true _▸h;rw[h'];simp
 ·try dsimp only
  unfold kV;rw[Ù]
def aoZ {x y:List IG} (hx:x.length≤1000) (hy:y.length≤1000) (ids:List Int) (X Y KF:Option ρ):Í (fun(v225:Int) kk227=>Ĺ x (Ö x) (TG ids) y v225 (fun u226=>kk227 u226) (fun z=>ifb (!(ige z 0)) X KF) (fun _=>Y)) (0:Int)=if Ν x y (fun u=>ids.contains u.1) then Y else KF:=by
 refine Le x y (fun u=>ids.contains u.1) X Y KF (fun i a hi ha kn=>?_) (fun kn=>?_)
 ·try dsimp only
  unfold Ĺ;rw[Ð hi,Ç ha,zZ,abO (by omega),À]
  by_cases h:ids.contains a.1=true
  ·rw[if_pos h,ė,Ë hi (by omega),Č,h];simp
  ·rw[if_neg h,Ë hi (by omega)];have h':=Bool.not_eq_true _▸h;rw[h'];simp
 ·try dsimp only
  unfold Ĺ;rw[Ù]
def asT {x y:List IG} (hx:x.length≤1000) (hy:y.length≤1000) (ids:List Int) (k:Bool→Option ρ):Í (fun(v225:Int) kk227=>Ĺ x (Ö x) (TG ids) y v225 (fun u226=>kk227 u226) (fun z=>k (!(ige z 0))) (fun _=>k true)) (0:Int)=k (Ν x y (fun u=>ids.contains u.1)):=by
 have h:=aoZ (ρ:=ρ) hx hy ids (k true) (k true) (k false)
 have e:(fun z:Int=>ifb (!(ige z 0)) (k true) (k false))=fun z=>k (!(ige z 0)):=by
  funext z
  cases(!(ige z 0))<;>rfl
 rw[e] at h;rw[h]
 cases Ν x y (fun u=>ids.contains u.1)<;>rfl
def asV {x y:List Cmp} (hx:x.length≤1000) (hp:∀c∈x,c.2.2.1.length≤1000∧c.2.2.2.1.length≤1000) (hy:y.length≤1000) (K:Option Bool):Í (fun(v228:Int) kk230=>qp x (Ö x) y v228 (fun u229=>kk230 u229) (fun z44=>some z44) (fun _=>K)) (0:Int)=if (x.all fun c=>rf c y)=true then K else some false:=by
 refine(Ģ x (fun c=>!rf c y) (fun _=>some false) (some false) K (fun _=>rfl) (fun i c hi hc kn=>?_) (fun kn=>?_)).trans ?_
 rotate_left
 ·try dsimp only
  unfold qp;rw[Ù]
 ·rw[List.all_eq_not_any_not]
  cases x.any fun c=>!rf c y<;>rfl
 ·try dsimp only
  unfold qp;have h:=hp c (List.mem_of_getElem? hc);rw[Ð hi,Ç hc];refine(amb hy c h.1 h.2 _ (kn ((i:Int)+1)) (some false) (fun j=>by rw[show ige (j:Int) 0=true from decide_eq_true (by omega),Ë hi (by omega)]; rfl)).trans ?_
  cases rf c y<;>rfl
end
def part_ok {s b:Þ} (hs:ľ s) (hb:ľ b):H5 s b=some (E7 s b):=by
 have g1:=hs.gauges; have g2:=hs.uses; have g3:=hs.loans; have g4:=hs.compares;have b1:=hb.gauges; have b2:=hb.uses; have b3:=hb.loans; have b4:=hb.compares;unfold H5 ZF E7;rw[ar6,ar5];refine(ë s.2.1 (fun i=>TG (oJ (s.1,s.2.1.take i,s.2.2))) (some _) rfl (fun i g hi hg kn=>?_) (fun kn=>?_))
 ·try dsimp only
  unfold vN;rw[Ð hi,Ç hg,Ë hi (by omega)];unfold oJ;dsimp only;rw[take_succ hg,List.map_append,List.map_singleton,yc]
 ·try dsimp only
  unfold vN;rw[Ù,List.take_length]
  try dsimp only
  rw[show oJ (s.1,s.2.1,s.2.2)=oJ s from rfl];refine(asV g4 hs.piles b4 _).trans ?_;rw[show(Ν s.2.2.2.2.1 b.2.2.2.2.1 fun _=>true)=s.2.2.2.2.1.all fun c=>rf c b.2.2.2.2.1 from rfl]
  by_cases hc:(s.2.2.2.2.1.all fun c=>rf c b.2.2.2.2.1)=true
  case neg=>rw[if_neg hc,ee.2 hc]; rfl
  rw[if_pos hc,hc,dV]
  by_cases hf:s.1=b.1
  case neg =>
   have ef:(õ s.1.1 b.1.1&&(õ s.1.2 b.1.2&&true))=false:=by
    rw[fK] at hf;simp[õ];omega
   rw[ef,æ,decide_eq_false hf];rfl
  have ef:(õ s.1.1 b.1.1&&(õ s.1.2 b.1.2&&true))=true:=by simp[õ,hf]
  rw[ef,ė,decide_eq_true hf,dV];refine(asU g1 b1 _ _ _).trans ?_;cases Ν s.2.1 b.2.1 fun _=>true
  case false=>rfl
  rw[if_pos rfl,dV];refine(ao0 g2 b2 _ _ _ _).trans ?_;cases Ν s.2.2.1 b.2.2.1 fun u=>(oJ s).contains u.1
  case false=>rfl
  rw[if_pos rfl,dV];refine(ao0 b2 g2 _ _ _ _).trans ?_;cases Ν b.2.2.1 s.2.2.1 fun u=>(oJ s).contains u.1
  case false=>rfl
  rw[if_pos rfl,dV];refine(aoZ g3 b3 _ _ _ _).trans ?_;cases Ν s.2.2.2.1 b.2.2.2.1 fun u=>(oJ s).contains u.1
  case false=>rfl
  rw[if_pos rfl,dV];exact asT b3 g3 _ some
def iv (x:List Int) (y:List Int) (l:Lk):List Int:=if gv x l.2.1=ď then y else y.set l.1.toNat (min (gv y l.1) (l.2.2+gv x l.2.1))
def Xv (L:List Lk) (N:Nat) (x:List Int):List Int:=L.foldl (iv x) (List.replicate N ď)
def exL (L:List Lk) (N:Nat) (to:Int):Nat→List Int
 |0=>(List.replicate N ď).set to.toNat 0
 |k+1=>Xv L N (exL L N to k)
def i8 (L:List Lk) (N:Nat) (to:Int) (most:Nat):List (List Int):=(List.range (most+1)).map (exL L N to)
section
variable {L:List Lk} {N:Nat}
def KV (x y:List Int) (l:Lk):(iv x y l).length=y.length:=by unfold iv; split<;>simp
def Bo (x:List Int):∀(M:List Lk) (y:List Int),(M.foldl (iv x) y).length=y.length
 |[],y=>rfl
 |l::M,y=>by rw[fU,Bo x M,KV]
def akR (x:List Int):(Xv L N x).length=N:=by unfold Xv; rw[Bo]; simp
def SI (to:Int) (k:Nat):(exL L N to k).length=N:=by
 cases k with
 |zero=>simp[exL]
 |succ k=>exact akR _
def Lim (B:Int) (x:List Int):Prop:=∀v:Int,gv x v≠ď→-B≤gv x v∧gv x v≤B
def gv_out {x:List Int} {v:Int} (h:¬v.toNat<x.length):gv x v=0:=by
 unfold gv;rw[List.getElem?_eq_none (by omega)];rfl
def KI {B:Int} (hB:0≤B):Lim B (List.replicate N ď):=by
 intro v hv
 by_cases h:v.toNat<N
 ·exfalso; apply hv;unfold gv;rw[List.getElem?_replicate,if_pos h];rfl
 ·rw[gv_out (by simpa using h)]; omega
def am7 {B:Int} {y:List Int} (hy:Lim B y) {u:Int} (hu:0≤u) (hl:u.toNat<y.length) {a:Int} (ha:a≠ď→-B≤a∧a≤B):Lim B (y.set u.toNat a):=by
 intro v hv
 by_cases h:v.toNat=u.toNat
 ·have:gv (y.set u.toNat a) v=a:=by
   unfold gv;rw[h,List.getElem?_set_self hl];rfl
  rw[this] at hv ⊢;exact ha hv
 ·have:gv (y.set u.toNat a) v=gv y v:=by
   unfold gv;rw[List.getElem?_set_ne (fun e=>h e.symm)]
  rw[this] at hv ⊢;exact hy v hv
def ai7 (hS:Ą L N) {B:Int} (hB:0≤B) (hB2:B≤1000000000000000000) {x y:List Int} (hx:Lim B x) (hy:Lim (B+4503599627370496) y) (hl:y.length=N) {l:Lk} (hm:l∈L):Lim (B+4503599627370496) (iv x y l):=by
 unfold iv
 split
 ·exact hy
 ·rename_i hf;have h1:=hS.inr l hm;have h2:=hS.most l hm;have h3:=hx _ hf;refine am7 hy h1.1.1 (by omega) fun ha=>?_
  by_cases h4:gv y l.1=ď
  ·rw[h4] at ha ⊢
   have:min ď (l.2.2+gv x l.2.1)=l.2.2+gv x l.2.1:=by unfold ď; omega
   rw[this]; omega
  ·have:=hy _ h4;omega
def aaZ (hS:Ą L N) {B:Int} (hB:0≤B) (hB2:B≤1000000000000000000) {x:List Int} (hx:Lim B x):∀(M:List Lk),(∀l∈M,l∈L)→∀y:List Int,y.length=N→Lim (B+4503599627370496) y→Lim (B+4503599627370496) (M.foldl (iv x) y)
 |[],_,y,_,hy=>hy
 |l::M,hM,y,hl,hy=>by
  rw[fU];exact aaZ hS hB hB2 hx M (fun m hm=>hM m (by simp[hm])) _ (by rw[KV,hl]) (ai7 hS hB hB2 hx hy hl (hM l (by simp)))
def tk (hS:Ą L N) {to:Int} (ht:0≤to∧to<N):∀k:Nat,k≤200→Lim (k*4503599627370496) (exL L N to k)
 |0,_=>by
  unfold exL;exact am7 (KI (by omega)) ht.1 (by simp; omega) (fun _=>by omega)
 |k+1,hk=>by
  have:=aaZ hS (B:=k*4503599627370496) (by omega) (by omega) (tk hS ht k (by omega)) L (fun _ h=>h) (List.replicate N ď) (by simp) (KI (by omega));unfold exL Xv
  have e:(((k+1:Nat):Int)*4503599627370496)=(k:Int)*4503599627370496+4503599627370496:=by push_cast; omega
  rw[e];exact this
def afp {ρ:Type} (hN:N≤1000) (K:List Int→Option ρ) {f:Int×List Int→(Int×List Int→Option ρ)→Option ρ}
 (hf:∀(v:Int×List Int) kk,f v kk=AX (N:Int) v.1 v.2 (fun u34 u35=>kk (u34,u35)) K):Í f ((0:Int),List.replicate N (0:Int))=K (List.replicate N ď):=by
 refine ë (List.replicate N (0:Int)) (fun i=>List.replicate i ď++List.replicate (N-i) (0:Int)) _ (by simp) (fun i a hi ha kn=>?_) (fun kn=>?_)
 ·rw[hf];dsimp only;unfold AX;rw[List.length_replicate] at hi
  have hlen:(List.replicate i ď++List.replicate (N-i) (0:Int)).length=N:=by simp; omega
  have e1:ilt (i:Int) (N:Int)=true:=decide_eq_true (by omega);rw[Ñ e1,show ā (List.replicate i ď++List.replicate (N-i) (0:Int))=(N:Int) by unfold ā; rw[hlen],ă (by omega) (by omega),kQ (by rw[hlen]; omega),Ò (by omega) (by omega)];congr 2;rw[Int.toNat_natCast];rw[List.set_append_right _ _ (by simp),List.length_replicate,Nat.sub_self];rw[show N-i=(N-(i+1))+1 by omega,List.replicate_succ,List.set_cons_zero,List.replicate_succ'];simp
 ·rw[hf];dsimp only;unfold AX;rw[List.length_replicate];have e1:ilt (N:Int) (N:Int)=false:=decide_eq_false (by omega);rw[Î e1];simp
def okN (hN:N≤1000) {ρ:Type} (x:Option ρ):è ((ile (0:Int) (N:Int))&&(ã (Int.toNat (N:Int)))) x=x:=by
 rw[ğ];rw[dt,Ó (by omega),fB];exact decide_eq_true (by omega)
def am6 {ρ:Type} (hS:Ą L N) {B:Int} (hB:0≤B) (hB2:B≤1000000000000000000) {x:List Int} (hx:Lim B x) (hxl:x.length=N) (K:List Int→Option ρ) :
 Í (fun(v20:(Val (.pair tI (.slice tI)))) kk23=>GO x L (Ö L) v20.1 v20.2 (fun u21 u22=>kk23 (u21,u22)) K) ((0:Int),List.replicate N ď)=K (Xv L N x):=by
 have hl3:=hS.len;refine ë L (fun i=>(L.take i).foldl (iv x) (List.replicate N ď)) _ rfl (fun i l hi hl kn=>?_) (fun kn=>?_)
 ·try dsimp only
  unfold GO;have hm:=List.mem_of_getElem? hl;have h1:=hS.inr l hm;have h2:=hS.most l hm;rw[Ð hi,Ç hl,wG h1.2.1 (by omega),take_succ hl,List.foldl_append,Ë hi (by omega)]
  have hlen:((L.take i).foldl (iv x) (List.replicate N ď)).length=N:=by rw[Bo]; simp
  generalize (L.take i).foldl (iv x) (List.replicate N ď)=y at hlen ⊢
  by_cases hf:gv x l.2.1=ď
  ·rw[Î (by rw[hf]; rfl)];simp only[List.foldl_cons,List.foldl_nil];unfold iv;rw[if_pos hf]
  ·have h3:=hx _ hf;rw[Ñ (bne_iff_ne.2 hf),show ā y=(N:Int) by unfold ā; rw[hlen],ă h1.1.1 h1.1.2,kQ (by omega),wG h1.2.1 (by omega),Ò (by omega) (by omega),ă h1.1.1 h1.1.2,kQ (by omega),Ë hi (by omega)];simp only[List.foldl_cons,List.foldl_nil];unfold iv;rw[if_neg hf,wF]
 ·try dsimp only
  unfold GO;rw[Ù,List.take_length];rfl
def aqk {ρ:Type}:@Z4 ρ=@AX ρ:=rfl
def lu (to:Int) (m:Nat):(i8 L N to m).length=m+1:=by simp[i8]
def uZ {to:Int} {m k:Nat} (hk:k≤m):(i8 L N to m)[k]?=some (exL L N to k):=by
 unfold i8;rw[List.getElem?_map,List.getElem?_range (by omega)];rfl
def ajm (hS:Ą L N) {to:Int} (ht:0≤to∧to<N) {most:Nat} (hm:most≤100):Al ((N:Int),L) to (most:Int)=some (i8 L N to most):=by
 have hN:=hS.n60
 unfold Al Q4
 dsimp only;rw[okN (by omega),Int.toNat_natCast];refine(afp (by omega) _ (fun v kk=>by rw[Ü,List.length_replicate])).trans ?_;rw[show ā (List.replicate N ď)=(N:Int) by simp[ā],ă ht.1 ht.2,kQ (by simp; omega)];refine ë (List.replicate most ()) (fun i=>i8 L N to i) _ (by simp[i8,exL]) (fun i a hi ha kn=>?_) (fun kn=>?_)
 ·try dsimp only
  unfold N5;rw[List.length_replicate] at hi;have e1:ilt (i:Int) (most:Int)=true:=decide_eq_true (by omega);rw[Ñ e1,Ü,lu]
  have e2:(((i+1:Nat):Int)-1)=(i:Int):=by omega
  rw[e2,Ò (by omega) (by omega),show ā (i8 L N to i)=((i+1:Nat):Int) by unfold ā; rw[lu],ă (by omega) (by omega),Int.toNat_natCast,jI (uZ (Nat.le_refl i)),okN (by omega),Int.toNat_natCast];rw[aqk];refine(afp (by omega) _ (fun v kk=>by rw[Ü,List.length_replicate])).trans ?_;refine(am6 hS (B:=i*4503599627370496) (by omega) (by omega) (tk hS ht i (by omega)) (SI _ _) _).trans ?_;rw[ğ (Ó (by simp only[lu,List.length_singleton]; omega)),Ò (by omega) (by omega)];congr 2;unfold i8;rw[List.range_succ (n:=i+1),List.map_append];rfl
 ·try dsimp only
  unfold N5;rw[List.length_replicate];have e1:ilt (most:Int) (most:Int)=false:=decide_eq_false (by omega);rw[Î e1]
def O7 (L:List Lk) (x:List Int) (good:Int→Bool) (u sum:Int):Option Nat:=L.findIdx? fun l=>l.1==u&&(decide (gv x l.2.1≠ď)&&good (sum+l.2.2+gv x l.2.1))
def jA (L:List Lk) (rest:Nat→List Int) (good:Int→Bool):Nat→Int→Int→List Int→List Int
 |0,_,_,out=>out
 |k+1,u,sum,out=>match O7 L (rest k) good u sum with
  |some i=>jA L rest good k (L[i]?.getD (0,0,0)).2.1 (sum+(L[i]?.getD (0,0,0)).2.2) (out++[(i:Int)])
  |none=>jA L rest good k u sum out
def folL {ρ:Type} (good:Int→Bool) (c0:Int) (c1:List (List Int)) (c2:List Lk) (c3:Int) (v0:Int) (v1:Int) (v2:Int) (v3:List Int) (kn:Int→Int→Int→List Int→Option ρ) (k0:Int×Int×List Int→Option ρ):Option ρ :=
 ifb (ilt v2 c3) (ï c2 v2 fun e7=>ifb (ieq e7.1 v0) (ck (c0-(1:Int)) fun n8=>ï c1 n8 fun e9=>ï e9 e7.2.1 fun e10=>ifb (ine e10 (1152921504606846976:Int)) (ck (v1+e7.2.2) fun n11=>ck (c0-(1:Int)) fun n12=>ï c1 n12 fun e13=>ï e13 e7.2.1 fun e14=>ck (n11+e14) fun n15=>ifb (good n15) (è (ã ((List.length v3)+(List.length ([v2])))) (ck (v1+e7.2.2) fun n16=>k0 (e7.2.1,n16,(v3++([v2]))))) (ck (v2+(1:Int)) fun n17=>kn v0 v1 n17 v3)) (ck (v2+(1:Int)) fun n18=>kn v0 v1 n18 v3)) (ck (v2+(1:Int)) fun n19=>kn v0 v1 n19 v3)) (k0 (v0,v1,v3))
def asn {ρ:Type} (hS:Ą L N) (good:Int→Bool) {rest:List (List Int)} {k:Nat} {x:List Int} (hr:rest[k]?=some x) (hk:k≤100) (hx:Lim 1000000000000000000 x) (hxl:x.length=N) {u sum:Int} (hs : -1000000000000000000≤sum∧sum≤1000000000000000000) {out:List Int} (ho:out.length≤1000)
 (K:Int×Int×List Int→Option ρ):Í (fun(v:Int×Int×Int×List Int) kk=>folL good ((k+1:Nat):Int) rest L (Ö L) v.1 v.2.1 v.2.2.1 v.2.2.2 (fun a b c d=>kk (a,b,c,d)) K) (u,sum,(0:Int),out) =
  match O7 L x good u sum with|some i=>K ((L[i]?.getD (0,0,0)).2.1,sum+(L[i]?.getD (0,0,0)).2.2,out++[(i:Int)])|none=>K (u,sum,out):=by
 have hl3:=hS.len;refine ġ (fun v=>∃i:Nat,i≤L.length∧v=(u,sum,(i:Int),out)∧∀j l,j<i→L[j]?=some l→(l.1==u&&(decide (gv x l.2.1≠ď)&&good (sum+l.2.2+gv x l.2.1)))=false) (fun v=>L.length-v.2.2.1.toNat) ?_ ⟨0,by omega,rfl,fun j l h=>by omega⟩;rintro v ⟨i,hi,rfl,hp⟩
 have e0:(((k+1:Nat):Int)-1)=(k:Int):=by omega
 rcases dA i L.length with h2|h2
 ·have hl:L[i]?=some L[i]:=cX h2;generalize L[i]=l at hl;have hm:=dg hl;have h1:=hS.inr l hm;have h4:=hS.most l hm
  have hstep:(l.1==u&&(decide (gv x l.2.1≠ď)&&good (sum+l.2.2+gv x l.2.1)))=false→∃y,(∃i:Nat,i≤L.length∧y=(u,sum,(i:Int),out)∧∀j l,j<i→L[j]?=some l→(l.1==u&&(decide (gv x l.2.1≠ď)&&good (sum+l.2.2+gv x l.2.1)))=false)∧(L.length-y.2.2.1.toNat<L.length-((u,sum,(i:Int),out):Int×Int×Int×List Int).2.2.1.toNat)∧y=(u,sum,(i:Int)+1,out):=fun hf =>
   ⟨_,⟨i+1,h2,by rw[show((i+1:Nat):Int)=(i:Int)+1 by push_cast; rfl],fun j m hj hm=>by
    rcases gN.1 hj with h|rfl
    ·exact hp j m h hm
    ·rw[hl] at hm; cases hm; exact hf⟩,by simp; omega,rfl⟩
  by_cases hf:(l.1==u&&(decide (gv x l.2.1≠ď)&&good (sum+l.2.2+gv x l.2.1)))=true
  ·refine .inl fun kn=>?_
   have hfi:O7 L x good u sum=some i:=by
    unfold O7;rw[List.findIdx?_eq_some_iff_getElem];obtain⟨hh,rfl⟩:=List.getElem?_eq_some_iff.1 hl;exact⟨h2,hf,fun j hj=>by have:=hp j _ hj (List.getElem?_eq_getElem (by omega)); rw[this]; simp⟩
   rw[hfi];simp only[Bool.and_eq_true,beq_iff_eq,decide_eq_true_eq] at hf;have h5:=hx _ hf.2.1;dsimp only;unfold folL
   rw[Ð h2,Ç hl,Ñ (by simp[hf.1]),e0,Ò (by omega) (by omega),Ç hr,wG h1.2.1 (by omega),Ñ (bne_iff_ne.2 hf.2.1),Ò (by omega) (by omega),Ò (by omega) (by omega),Ç hr,wG h1.2.1 (by omega),Ò (by omega) (by omega),Ñ hf.2.2,
    ğ (Ó (by simp; omega)),Ò (by omega) (by omega),hl]
   rfl
  ·have hf':=Bool.not_eq_true _▸hf;obtain⟨y,hy1,hy2,rfl⟩:=hstep hf';refine .inr ⟨_,hy1,hy2,fun kn=>?_⟩;dsimp only;unfold folL;rw[Ð h2,Ç hl,Ë h2 (by omega)]
   by_cases g1:l.1=u
   ·rw[Ñ (by simp[g1]),e0,Ò (by omega) (by omega),Ç hr,wG h1.2.1 (by omega)]
    by_cases g2:gv x l.2.1=ď
    ·rw[Î (by rw[g2]; rfl)]
    ·have h5:=hx _ g2
     have g3:good (sum+l.2.2+gv x l.2.1)=false:=by simpa[g1,g2] using hf'
     rw[Ñ (bne_iff_ne.2 g2),Ò (by omega) (by omega),Ò (by omega) (by omega),Ç hr,wG h1.2.1 (by omega),Ò (by omega) (by omega),Î g3]
   ·rw[Î (by simpa using g1)]
 ·refine .inl fun kn=>?_
  obtain rfl:i=L.length:=by omega
  have hfi:O7 L x good u sum=none:=by
   unfold O7;rw[List.findIdx?_eq_none_iff];intro l hl;obtain⟨j,hj,rfl⟩:=List.mem_iff_getElem.1 hl;exact hp j _ hj (List.getElem?_eq_getElem hj)
  rw[hfi];dsimp only;unfold folL;rw[Ù]
def ars {ρ:Type} (good:Int→Bool) (c0:List (List Int)) (c6:List Lk) (v0:Int) (v1:Int) (v2:Int) (v3:List Int) (kn:Int→Int→Int→List Int→Option ρ) (k0:List Int→Option ρ):Option ρ :=
 ifb (igt v1 (0:Int)) (Í (fun(v22:Int×Int×Int×List Int) kk27=>folL good v1 c0 c6 (Ö c6) v22.1 v22.2.1 v22.2.2.1 v22.2.2.2 (fun u23 u24 u25 u26=>kk27 (u23,u24,u25,u26)) (fun z20=>ck (v1-(1:Int)) fun n21=>kn z20.1 n21 z20.2.1 z20.2.2)) (v0,v2,(0:Int),v3)) (k0 v3)
def aqE {ρ:Type} (c0:List (List Int)) (c4:Int) (c6:List Lk):@sd ρ c0 c4 c6=ars (fun n=>ieq n c4) c0 c6:=rfl
def anr {ρ:Type} (hS:Ą L N) (good:Int→Bool) {rest:List (List Int)} {R:Nat→List Int} {k0:Nat} (hk:k0≤100) (hr:∀k,k<k0→rest[k]?=some (R k)) (hx:∀k,k<k0→Lim 900000000000000000 (R k)∧(R k).length=N) (u:Int) (K:List Int→Option ρ) :
 Í (fun(v:Int×Int×Int×List Int) kk=>ars good rest L v.1 v.2.1 v.2.2.1 v.2.2.2 (fun a b c d=>kk (a,b,c,d)) K) (u,(k0:Int),(0:Int),[])=K (jA L R good k0 u 0 []):=by
 have key:=n0 (f:=fun(v:Int×Int×Int×List Int) kk=>ars good rest L v.1 v.2.1 v.2.2.1 v.2.2.2 (fun a b c d=>kk (a,b,c,d)) K) (F:=fun v=>K (jA L R good v.2.1.toNat v.1 v.2.2.1 v.2.2.2))
  (fun v=>∃k:Nat,v.2.1=k∧k≤k0∧(-(((k0-k:Nat):Int)*4503599627370496)≤v.2.2.1∧v.2.2.1≤((k0-k:Nat):Int)*4503599627370496)∧v.2.2.2.length≤k0-k) (fun v=>v.2.1.toNat) (fun v hv kn hk=>?_) (x:=(u,(k0:Int),0,[])) ⟨k0,rfl,cY _,by simp,by simp⟩
 ·rw[key]; simp
 ·obtain⟨u,k',sum,out⟩:=v;obtain⟨k,e,h1,h2,h3⟩:=hv;dsimp only at e h2 h3 hk ⊢;subst e;rw[Int.toNat_natCast] at hk ⊢;unfold ars
  cases k with
  |zero =>
   rw[Î (by rfl)];rfl
  |succ k =>
   rw[Ñ (decide_eq_true (by omega))];have hh:=hx k (by omega)
   have hlim:Lim 1000000000000000000 (R k):=fun v hv=>by have:=hh.1 v hv; omega
   refine(asn hS good (hr k (by omega)) (by omega) hlim hh.2 (by omega) (by omega) _).trans ?_;unfold jA
   have e0:(((k+1:Nat):Int)-1)=(k:Int):=by omega
   cases hn:O7 L (R k) good u sum with
   |none =>
    dsimp only;rw[e0,Ò (by omega) (by omega),hk _ ⟨k,rfl,by omega,by dsimp only; omega,by dsimp only; omega⟩ (by simp)];simp
   |some i =>
    have hi:i<L.length:=by
     unfold O7 at hn;exact(List.findIdx?_eq_some_iff_getElem.1 hn).1
    have hl:L[i]?=some L[i]:=List.getElem?_eq_getElem hi;have h4:=hS.most L[i] (List.getElem_mem _);dsimp only;rw[hl];simp only[Option.getD_some];rw[e0,Ò (by omega) (by omega),hk _ ⟨k,rfl,by omega,by dsimp only; omega,by simp; omega⟩ (by simp)];simp
def Tx (L:List Lk) (N:Nat) (u v:Int):List Int×Int :=
 if (ix L N u v).2≠0 then([],(ix L N u v).2) else
 match (i8 L N v N).findIdx? (fun x=>gv x u==(ix L N u v).1) with
 |some k=>(jA L (exL L N v) (fun n=>ieq n (ix L N u v).1) k u 0 [],0)
 |none=>([],0)
def aj0 (hS:Ą L N) {u v:Int} (hu:0≤u∧u<N) (hv:0≤v∧v<N):Ao ((N:Int),L) u v=some (Tx L N u v):=by
 have hN:=hS.n60;unfold Ao Ri Tx;rw[Oq hS hu hv,À]
 by_cases h:(ix L N u v).2=0
 ·rw[Î (by rw[h]; rfl),if_neg (by simp[h]),ajm hS hv (by omega),À];rw[aqE]
  let k0:Int→Option (List Int×Int):=fun j=>Í (fun(v29:Int×Int×Int×List Int) kk34=>ars (fun n=>ieq n (ix L N u v).1) (i8 L N v N) L v29.1 v29.2.1 v29.2.2.1 v29.2.2.2 (fun u30 u31 u32 u33=>kk34 (u30,u31,u32,u33)) (fun z28=>some ((z28,(0:Int)):List Int×Int))) (u,j,(0:Int),[])
  refine(ś (i8 L N v N) (fun x=>gv x u==(ix L N u v).1) k0 (k0 (-1)) (fun i x hi hx kn=>?_) (fun kn=>?_)).trans ?_
  rotate_left
  ·try dsimp only
   unfold se;rw[Ù]
  ·have hex:∀k,k<N+1→(i8 L N v N)[k]?=some (exL L N v k):=fun k hk=>uZ (by omega)
   have hlim:∀k,k<N+1→Lim 900000000000000000 (exL L N v k)∧(exL L N v k).length=N:=fun k hk=>⟨fun w hw=>by
    have:=tk hS hv k (by omega) w hw; omega,SI _ _⟩
   cases hf:(i8 L N v N).findIdx? (fun x=>gv x u==(ix L N u v).1) with
   |none =>
    have:=n0 (f:=fun(v29:Int×Int×Int×List Int) kk34=>ars (fun n=>ieq n (ix L N u v).1) (i8 L N v N) L v29.1 v29.2.1 v29.2.2.1 v29.2.2.2 (fun u30 u31 u32 u33=>kk34 (u30,u31,u32,u33)) (fun z28=>some ((z28,(0:Int)):List Int×Int))) (F:=fun _=>some (([],0):List Int×Int)) (fun v=>v.2.1 = -1∧v.2.2.2=[]) (fun _=>0) (fun x hx kn hk=>by
     unfold ars;rw[hx.1,hx.2]
     rfl) (x:=(u,(-1:Int),(0:Int),[])) ⟨rfl,rfl⟩
    exact this
   |some k =>
    have hk:=(dL.1 hf).1;rw[lu] at hk;exact anr hS _ (R:=exL L N v) (by omega) (fun j hj=>hex j (by omega)) (fun j hj=>hlim j (by omega)) u (fun z=>some ((z,(0:Int)):List Int×Int))
  ·try dsimp only
   unfold se
   have hxl:x.length=N:=by
    have hi':=hi;rw[lu] at hi';rw[uZ (by omega)] at hx;cases hx;exact SI _ _
   rw[lu] at hi;rw[Ü,lu,Ñ (decide_eq_true (by omega)),Ç hx,wG hu.1 (by omega),Ò (by omega) (by omega),Č]
 ·rw[Ñ (bne_iff_ne.2 h),if_pos h]
end
def al6 (f:Int→Int→Int) (z:Int) (l:List Int) (d:Int):Int:=match l with|[]=>z|x::_=>f x d
def Ih (f:Int→Int→Int) (z:Int) (c:Cmp):Int:=al6 f z (ç c.2.2.1 c.2.2.2.1) c.2.1-al6 f z (ç c.2.2.2.1 c.2.2.1) c.2.1
structure ara (b:Þ) (f:Int→Int→Int) (z:Int) (g:é):Prop where
 hi:f g.1 g.2.1≤z+(g.2.2.1+g.2.2.2.1.2)
 lo:z+(g.2.2.1+g.2.2.2.1.1)≤f g.1 g.2.1
 down:∀d e,g.2.1≤d→d≤e→f g.1 e≤f g.1 d
 loss:∀d e,g.2.1≤d→d≤e→f g.1 d≤f g.1 e+ii b g d e
structure ao4 (b:Þ) (f:Int→Int→Int) (z:Int):Prop where
 gauge:∀g∈b.2.1,ara b f z g
 cmp:∀c∈b.2.2.2.2.1,(Ū b c).1≤Ih f z c∧Ih f z c≤(Ū b c).2
def afq {b:Þ} (h:Ċ b) {p:Int→Int} (hg:∀g∈b.2.1,qR b p g):∃f:Int→Int→Int,(∀g∈b.2.1,ara b f (p 0) g)∧∀g∈b.2.1,∀d∈ß b g,f g.1 d=p (Ż b g.1 d):=by
 let f:Int→Int→Int:=fun id d=>match ł b id with|some g=>fill b p g d|none=>0
 have hfv:∀g∈b.2.1,∀d,f g.1 d=fill b p g d:=fun g hgm d=>by
  show(match ł b g.1 with|some g=>fill b p g d|none=>0)=_;rw[ű h.ids hgm]
 refine⟨f,fun g hgm=>?_,fun g hgm d hd=>by rw[hfv g hgm]; exact Ob h hgm (hg g hgm) hd⟩;have gf:=hg g hgm
 have e0:f g.1 g.2.1=p (Ż b g.1 g.2.1):=by rw[hfv g hgm]; exact Ob h hgm gf (kK g)
 refine⟨by rw[e0]; exact gf.hi,by rw[e0]; exact gf.lo,fun d e h0 hde=>?_,fun d e h0 hde=>?_⟩
 ·rw[hfv g hgm,hfv g hgm];exact(HN h hgm gf h0 hde).1
 ·rw[hfv g hgm,hfv g hgm];exact(HN h hgm gf h0 hde).2
def ace {b:Þ} {f:Int→Int→Int} {p:Int→Int} (hm:∀g∈b.2.1,∀d∈ß b g,f g.1 d=p (Ż b g.1 d)) {l:List Int} {day:Int} (hl:∀x∈l,∃g∈b.2.1,g.1=x∧day∈ß b g):p (NI b l day)=al6 f (p 0) l day:=by
 cases l with
 |nil=>rfl
 |cons x t =>
  obtain⟨g,q1,rfl,q3⟩:=hl x (by simp);exact(hm g q1 day q3).symm
def SN {b:Þ} {f:Int→Int→Int} {p:Int→Int} (hm:∀g∈b.2.1,∀d∈ß b g,f g.1 d=p (Ż b g.1 d)) {c:Cmp}
 (hl:∀x,x∈ç c.2.2.1 c.2.2.2.1∨x∈ç c.2.2.2.1 c.2.2.1→∃g∈b.2.1,g.1=x∧c.2.1∈ß b g):p (cx b c)-p (cy b c)=Ih f (p 0) c:=by
 unfold Ih;rw[K4,K3,ace hm (fun x hx=>hl x (.inl hx)),ace hm (fun x hx=>hl x (.inr hx))]
def Wg {b:Þ} (h:Ċ b) (f:Int→Int→Int) (z:Int) {l:List Int} {day:Int} (hl:∀x∈l,∃g∈b.2.1,g.1=x∧day∈ß b g):OK b f z (NI b l day)=al6 f z l day:=by
 rw[Lc h f z hl];unfold al6
 cases l<;>rfl
def EW {b:Þ} (h:Ċ b) {f:Int→Int→Int} {z:Int} {c:Cmp} (hl:∀x,x∈ç c.2.2.1 c.2.2.2.1∨x∈ç c.2.2.2.1 c.2.2.1→∃g∈b.2.1,g.1=x∧c.2.1∈ß b g):OK b f z (cx b c)-OK b f z (cy b c)=Ih f z c:=by
 unfold Ih;rw[K4,K3,Wg h f z (fun x hx=>hl x (.inl hx)),Wg h f z (fun x hx=>hl x (.inr hx))]
def IW {b:Þ} (h:Ċ b) {f:Int→Int→Int} {z:Int} {g:é} (hg:g∈b.2.1) (hh:ara b f z g):qR b (OK b f z) g:=by
 have q:∀d∈ß b g,OK b f z (Ż b g.1 d)=f g.1 d:=fun d hd=>EX h f z hg hd;have e0:=q g.2.1 (kK g);refine⟨?_,?_,fun d e hd he hde=>?_,fun d e hd he hde=>?_⟩
 ·rw[e0,pR]; exact hh.hi
 ·rw[e0,pR]; exact hh.lo
 ·rw[q d hd,q e he]; exact hh.down d e (h.day hg hd).1 hde
 ·rw[q d hd,q e he]; exact hh.loss d e (h.day hg hd).1 hde
section
variable {b:Þ} {c:Cmp}
def apL (h:Ċ b) {p:Int→Int} (hp:Pot (Ø b) p):∃f,ao4 b f (p 0)∧∀g∈b.2.1,∀d∈ß b g,f g.1 d=p (Ż b g.1 d):=by
 obtain⟨hg,hc⟩:=(X5 h).1 hp;obtain⟨f,hf,hm⟩:=afq h hg;refine⟨f,⟨hf,fun c hcm=>?_⟩,hm⟩;have:=SN hm (c:=c) (fun x hx=>nw h hcm hx);have:=hc c hcm;omega
def aqc (h:Ċ b) {f:Int→Int→Int} {z:Int} (hh:ao4 b f z):Pot (Ø b) (OK b f z):=by
 refine(X5 h).2 ⟨fun g hg=>IW h hg (hh.gauge g hg),fun c hc=>?_⟩;have:=EW (f:=f) (z:=z) h (c:=c) (fun x hx=>nw h hc hx);have:=hh.cmp c hc;omega
def aju (h:Ċ b) {d:Cmp} (hd:d∈b.2.2.2.2.1):∀x,x∈ç d.2.2.1 d.2.2.2.1∨x∈ç d.2.2.2.1 d.2.2.1→∃g∈(ì b c).2.1,g.1=x∧d.2.1∈ß (ì b c) g:=by
 intro x hx;obtain⟨g,q1,q2,q3⟩:=nw h hd hx;exact⟨g,q1,q2,vc q3⟩
def anh (h:Ċ b) (h':Ċ (ì b c)) {p:Int→Int} (hp:Pot (ö (ì b c)) p):∃f,ao4 b f (p 0)∧p (cx (ì b c) c)-p (cy (ì b c) c)=Ih f (p 0) c:=by
 obtain⟨hg,hc⟩:=(N9 h').1 hp;obtain⟨f,hf,hm⟩:=afq h' hg;refine⟨f,⟨fun g hgm=>?_,fun d hd=>?_⟩,SN hm fun x hx=>nw h' AP hx⟩
 ·have:=hf g hgm;exact⟨this.hi,this.lo,this.down,this.loss⟩
 ·have:=SN hm (c:=d) (aju h hd);have:=hc d hd;omega
def ang (h:Ċ b) (h':Ċ (ì b c)) {f:Int→Int→Int} {z:Int} (hh:ao4 b f z):Pot (ö (ì b c)) (OK (ì b c) f z)∧OK (ì b c) f z (cx (ì b c) c)-OK (ì b c) f z (cy (ì b c) c)=Ih f z c:=by
 refine⟨(N9 h').2 ⟨fun g hg=>IW h' hg ?_,fun d hd=>?_⟩,EW h' fun x hx=>nw h' AP hx⟩
 ·have:=hh.gauge g hg;exact⟨this.hi,this.lo,this.down,this.loss⟩
 ·have:=EW (f:=f) (z:=z) h' (c:=d) (aju h hd);have:=hh.cmp d hd;omega
def O5 (h:Ċ b):Ĕ (Ø b) ((Ì b).length+1)=true↔∃f z,ao4 b f z:=by
 have:=h.sys.n60;rw[ō h.sys.links (by omega)];constructor
 ·rintro⟨p,hp⟩;obtain⟨f,hf,_⟩:=apL h hp;exact⟨f,_,hf⟩
 ·rintro⟨f,z,hh⟩;exact⟨_,aqc h hh⟩
def d_max (h:Ċ b) (h':Ċ (ì b c)) {f:Int→Int→Int} {z:Int} (hh:ao4 b f z):dLo b c≤Ih f z c∧Ih f z c≤dHi b c:=by
 have ho:Ĕ (ö (ì b c)) ((Ì (ì b c)).length+1)=true:=by rw[qy h h']; exact(O5 h).2 ⟨f,z,hh⟩
 obtain⟨hp,hd⟩:=ang h h' hh;have a1:=abh (jP h') (ki h') ho (De h') (Dc h') hp;have a2:=abh (jP h') (ki h') ho (Dc h') (De h') hp;unfold dLo dHi;omega
def d_all (h:Ċ b) (h':Ċ (ì b c)) (ho:Ĕ (Ø b) ((Ì b).length+1)=true) {t:Int} (h1:dLo b c≤t) (h2:t≤dHi b c):∃f z,ao4 b f z∧Ih f z c=t:=by
 rw[←qy h h'] at ho;obtain⟨p,hp,hd⟩:=ast (jP h') (ki h') ho (De h') (Dc h') h1 h2;obtain⟨f,hf,he⟩:=anh h h' hp;exact⟨f,_,hf,by rw[←he]; exact hd⟩
def asw (h:Ċ b) (h':Ċ (ì b c)) (ho:Ĕ (Ø b) ((Ì b).length+1)=true):dLo b c≤dHi b c:=by
 rw[←qy h h'] at ho;exact afu (jP h') (ki h') ho (De h') (Dc h')
structure Pred (b:Þ) (c:Cmp) (s:Int×Int):Prop where
 good:Ċ b
 good2:Ċ (ì b (Ê c))
 order:ahx b c≤EC b c
 has:∃f z,ao4 b f z
 ends:s.1-ahx b c≤s.2-EC b c
 bd : -9007199254740992≤s.1-ahx b c∧s.2-EC b c≤9007199254740992
 all:∀f z,ao4 b f z→s.1-ahx b c≤Ih f z c∧Ih f z c≤s.2-EC b c
 each:∀t,s.1-ahx b c≤t→t≤s.2-EC b c→∃f z,ao4 b f z∧Ih f z c=t
def acp (hp:(Ķ b c).2=0):Pred b c (Ķ b c).1:=by
 obtain⟨h,h'⟩:=pq hp;rw[Tu h h'] at hp ⊢
 by_cases ho:Ĕ (Ø b) ((Ì b).length+1)=true
 ·rw[if_pos ho] at hp ⊢;obtain⟨h1,h2⟩:=agl hp;rw[h2];have e1:ahx b (Ê c)=ahx b c:=rfl;have e2:EC b (Ê c)=EC b c:=rfl;rw[e1,e2] at *
  have s1:dLo b (Ê c)+ahx b c-ahx b c=dLo b (Ê c):=by omega
  have s2:dHi b (Ê c)+EC b c-EC b c=dHi b (Ê c):=by omega
  refine⟨h,h',h1,(O5 h).1 ho,?_,?_,fun f z hh=>?_,fun t t1 t2=>?_⟩
  ·simp only;rw[s1,s2];exact asw h h' ho
  ·simp only;rw[s1,s2];rw[←qy h h'] at ho;have a1:=ajt (jP h') (ki h') ho (De h') (Dc h');have a2:=ajt (jP h') (ki h') ho (Dc h') (De h');unfold dLo dHi;omega
  ·simp only;rw[s1,s2];exact d_max (c:=Ê c) h h' hh
  ·simp only at t1 t2;rw[s1] at t1;rw[s2] at t2;exact d_all (c:=Ê c) h h' ho t1 t2
 ·rw[if_neg ho] at hp;simp at hp
end
theorem IP {b:Þ} (h:Ċ b):(ĥ b).length=(Ø b).length:=by
 have g0:∀i,((b.2.1.take i).mapIdx (à b)).flatten.length=((b.2.1.take i).flatMap (á b)).length:=by
  intro i
  induction i with
  |zero=>simp
  |succ i ih =>
   rcases dA i b.2.1.length with hi|hi
   ·have hg:b.2.1[i]?=some b.2.1[i]:=List.getElem?_eq_getElem hi;rw[iI _ hg,take_succ hg,List.flatMap_append,List.flatten_append,List.length_append,List.length_append,ih];congr 1;unfold à á;simp only[List.flatMap_cons,List.flatMap_nil,List.append_nil,List.flatten_cons,List.flatten_nil,List.length_append];rw[Ņ _ _ (fun _=>rfl),Ņ _ _ (fun _=>rfl)];rfl
   ·rw[er (by omega)] at ih ⊢;exact ih
 have c0:=XE (b:=b) b.2.2.2.2.1.length (Nat.le_refl _);have g1:=g0 b.2.1.length;rw[List.take_length] at c0 g1;unfold ĥ Ø;rw[List.length_append,List.length_append,g1,c0.1,c0.2]
theorem Sl {b:Þ}:∀s∈(b.2.1.mapIdx (à b)).flatten,(s.1=1∨s.1=2)∧0≤s.2∧s.2<b.2.1.length:=by
 intro s hs;obtain⟨l,hl,hm⟩:=List.mem_flatten.1 hs;obtain⟨i,hi,rfl⟩:=List.mem_iff_getElem.1 hl;rw[List.length_mapIdx] at hi;rw[List.getElem_mapIdx] at hm;unfold à at hm;rcases List.mem_append.1 hm with h|h
 ·simp at h; subst h; exact⟨.inl rfl,by dsimp only; omega,by dsimp only; omega⟩
 ·obtain⟨_,_,h⟩:=List.mem_flatMap.1 h;simp at h; subst h; exact⟨.inr rfl,by dsimp only; omega,by dsimp only; omega⟩
theorem SS {l:List Cmp}:∀s∈(l.mapIdx fun i (_:Cmp)=>[((3:Int),(i:Int)),((3:Int),(i:Int))]).flatten,s.1=3∧0≤s.2∧s.2<l.length:=by
 intro s hs;obtain⟨m,hl,hm⟩:=List.mem_flatten.1 hs;obtain⟨i,hi,rfl⟩:=List.mem_iff_getElem.1 hl;rw[List.length_mapIdx] at hi;rw[List.getElem_mapIdx] at hm;simp at hm; subst hm;exact⟨rfl,by dsimp only; omega,by dsimp only; omega⟩
theorem apX (b:Þ) (c:Cmp):∃S:List (Int×Int),ĥ (ì b c)=S++[(3,(b.2.2.2.2.1.length:Int)),(3,(b.2.2.2.2.1.length:Int))]∧∀s∈S,¬(s.1=3∧s.2=(b.2.2.2.2.1.length:Int)):=by
 refine⟨((ì b c).2.1.mapIdx (à (ì b c))).flatten++(b.2.2.2.2.1.mapIdx fun i (_:Cmp)=>[((3:Int),(i:Int)),((3:Int),(i:Int))]).flatten,?_,fun s hs=>?_⟩
 ·unfold ĥ;rw[show(ì b c).2.2.2.2.1=b.2.2.2.2.1++[c] from rfl,List.mapIdx_append,List.flatten_append,List.append_assoc];simp
 ·rcases dh.1 hs with h|h
  ·have:=Sl s h; omega
  ·have:=SS s h; omega
theorem W9 (b:Þ) (c:Cmp) (h:Ċ (ì b c)):Ø (ì b c)=ö (ì b c)++[(cy (ì b c) c,cx (ì b c) c,(Ū (ì b c) c).2),(cx (ì b c) c,cy (ì b c) c,-(Ū (ì b c) c).1)]:=by
 rw[ahD];unfold Ø;rw[show(ì b c).2.2.2.2.1=b.2.2.2.2.1++[c] from rfl,List.flatMap_append,List.append_assoc];simp[ø]
def aro (b:Þ) (c:Cmp) (s t:Int):Int:=dst (ö (ì b c)) ((Ì (ì b c)).length+1) s t
abbrev End:Type:=Int×Int×Int
abbrev Lf:Type:=(Int×Int)×End×End
def endP (b:Þ) (c:Cmp) (s t:Int):End :=
 (aro b c s t,aro b c s (cy (ì b c) c)+(Ū b c).2+aro b c (cx (ì b c) c) t,aro b c s (cx (ì b c) c)-(Ū b c).1+aro b c (cy (ì b c) c) t)
def worth0:Lf:=((0,0),(0,0,0),(0,0,0))
def abS (b:Þ) (n:Int×Int) (c:Cmp):Lf :=
 ((Ķ b c).1,endP b (Ê c) 0 (A5 (ì b (Ê c)) n.1 n.2),endP b (Ê c) (A5 (ì b (Ê c)) n.1 n.2) 0)
def aa2 (b:Þ) (n:Int×Int) (c:Cmp):Lf×Int:=if (Ķ b c).2≠0 then(worth0,(Ķ b c).2) else(abS b n c,0)
theorem Lu {b:Þ} {c:Cmp} (h:(Ķ b c).2=0):Ĕ (Ø b) ((Ì b).length+1)=true:=by
 obtain⟨g1,g2⟩:=pq h;rw[Tu g1 g2] at h
 by_cases ho:Ĕ (Ø b) ((Ì b).length+1)=true
 ·exact ho
 ·rw[if_neg ho] at h; cases h
section
variable {b:Þ} {c:Cmp} (h:Ċ b) (h':Ċ (ì b c)) (ho:Ĕ (Ø b) ((Ì b).length+1)=true)
include h h' ho
theorem tr {s t:Int} (hs:0≤s∧s<((Ì (ì b c)).length+1:Nat)) (ht:0≤t∧t<((Ì (ì b c)).length+1:Nat)) : -9007199254740992≤aro b c s t∧aro b c s t≤9007199254740992 :=
 ajt (jP h') (ki h') (by rw[qy h h']; exact ho) hs ht
theorem uK (B:Þ) {s t:Int} (hs:0≤s∧s<((Ì (ì b c)).length+1:Nat)) (ht:0≤t∧t<((Ì (ì b c)).length+1:Nat)):ĉ (B,(((Ì (ì b c)).length:Int)+1,ö (ì b c))) t s=some (aro b c s t):=by
 rw[show(((Ì (ì b c)).length:Int)+1)=(((Ì (ì b c)).length+1:Nat):Int) by push_cast; rfl,afQ (jP h') ht hs,BC (jP h') (ki h') hs ht,if_pos (by rw[qy h h']; exact ho)];rfl
theorem ama:(-4503599627370496≤(Ū b c).1∧(Ū b c).1≤4503599627370496)∧(-4503599627370496≤(Ū b c).2∧(Ū b c).2≤4503599627370496):=by
 have hs:=h'.sys;have e:=W9 b c h';have m1:=hs.most (cy (ì b c) c,cx (ì b c) c,(Ū (ì b c) c).2) (by rw[e]; simp);have m2:=hs.most (cx (ì b c) c,cy (ì b c) c,-(Ū (ì b c) c).1) (by rw[e]; simp);have e2:Ū (ì b c) c=Ū b c:=rfl;rw[e2] at m1 m2;dsimp only at m1 m2;omega
theorem ajq (B:Þ) {s t:Int} (hs:0≤s∧s<((Ì (ì b c)).length+1:Nat)) (ht:0≤t∧t<((Ì (ì b c)).length+1:Nat)) :
 od t s (B,(((Ì (ì b c)).length:Int)+1,ö (ì b c))) (cy (ì b c) c) (Ū b c) (cx (ì b c) c)=some (endP b c s t):=by
 have hx:=De h';have hy:=Dc h';have b1:=tr h h' ho hs ht;have b2:=tr h h' ho hs hy;have b3:=tr h h' ho hx ht;have b4:=tr h h' ho hs hx;have b5:=tr h h' ho hy ht;have b6:=ama h h' ho;unfold od zo;rw[uK h h' ho B hs ht,À,uK h h' ho B hs hy,À,Ò (by omega) (by omega),uK h h' ho B hx ht,À,Ò (by omega) (by omega),uK h h' ho B hs hx,À,Ò (by omega) (by omega),uK h h' ho B hy ht,À,Ò (by omega) (by omega)];rfl
end
theorem acr {B:Þ} (h:Ċ B) (hn:∀g∈B.2.1,I64 g.2.2.2.2.1.1) (s:Sys) (l:List Int) (c:Cmp):oe l (B,s) c=some (atP (Ì B) l c.2.1):=by
 unfold oe zp
 cases l with
 |nil=>rw[Ü]; rfl
 |cons x t =>
  rw[Ü,Î (beq_eq_false_iff_ne.2 (by simp; omega)),show(0:Int)=((0:Nat):Int) from rfl,Ç (show(x::t)[0]?=some x from rfl),Tj h hn,À];rfl
theorem ann {ρ:Type} {b:Þ} {c:Cmp} (h:Ċ (ì b c)) (K:List Lk→Option ρ) :
 Í (fun(v17:Val É) kk20=>lZ (b.2.2.2.2.1.length:Int) (ĥ (ì b c)) (Ø (ì b c)) (Ö (Ø (ì b c))) v17.1 v17.2 (fun u18 u19=>kk20 (u18,u19)) K) ((0:Int),[])=K (ö (ì b c)):=by
 have hl3:=h.sys.len;have hsl:=IP h;obtain⟨S,hS,hSk⟩:=apX b c;have hL:=W9 b c h
 have hSl:S.length=(ö (ì b c)).length:=by
  rw[hS,hL,dc,dc] at hsl;simpa using hsl
 generalize ö (ì b c)=H at hL hSl ⊢;rw[hS];generalize Ø (ì b c)=L at hL hsl hl3 ⊢
 have hLl:L.length=H.length+2:=by rw[hL]; simp
 refine ë L (fun i=>(L.take i).take H.length) _ (by simp) (fun i l hi hl kn=>?_) (fun kn=>?_)
 ·try dsimp only
  unfold lZ;rw[Ð hi,Ç hl];rcases Nat.lt_or_ge i H.length with h1|h1
  ·have hs:(S++[((3:Int),(b.2.2.2.2.1.length:Int)),(3,(b.2.2.2.2.1.length:Int))])[i]?=some S[i]:=by
    rw[eS (by omega),cX]
   have hk:=hSk S[i] (fC _)
   have e:((õ (S[i]).1 (3:Int))&&((õ (S[i]).2 (b.2.2.2.2.1.length:Int))&&true))=false:=by
    simp[õ]; omega
   have e1:(L.take i).take H.length=L.take i:=er (by rw[dm]; omega);have e2:(L.take (i+1)).take H.length=L.take (i+1):=er (by rw[dm]; omega);rw[Ç hs,e,Ñ (by rfl),e1,e2,ğ (Ó (by rw[dm]; simp; omega)),Ë hi (by omega),take_succ hl]
  ·have hs:(S++[((3:Int),(b.2.2.2.2.1.length:Int)),(3,(b.2.2.2.2.1.length:Int))])[i]?=some ((3:Int),(b.2.2.2.2.1.length:Int)):=by
    rw[eE (by omega)]
    have:i-S.length=0∨i-S.length=1:=by omega
    rcases this with e|e<;>rw[e]<;>rfl
   have e:((õ (3:Int) (3:Int))&&((õ (b.2.2.2.2.1.length:Int) (b.2.2.2.2.1.length:Int))&&true))=true:=by simp[õ]
   have e1:(L.take i).take H.length=(L.take (i+1)).take H.length:=by
    rw[List.take_take,List.take_take];congr 1;omega
   rw[Ç hs];dsimp only;rw[e,Î (by rfl),Ë hi (by omega),e1]
 ·try dsimp only
  unfold lZ;rw[Ù,List.take_length,hL];simp
theorem ae5 {B:Þ} (hr:asM B) (n:Int×Int) {c:Cmp} (hA:c.2.2.1.length≤1000) (hB:c.2.2.2.1.length≤1000):uS (B,NR B) n c=some (aa2 B n c):=by
 unfold uS JV aa2;have hs:=hr.good.size;rw[show(B,NR B).1=B from rfl,alx hs hr.num hA hB,À]
 by_cases hp:(Ķ B c).2=0
 ·obtain⟨g1,g2⟩:=pq hp;have ho:=Lu hp
  have e1:AF B (Ê c)=(ì B (Ê c),0):=by
   unfold AF;rw[if_neg (by simp[(ê B).2 g1]),if_neg (by simp[(ê _).2 g2])]
  have hn2:∀g∈(ì B (Ê c)).2.1,I64 g.2.2.2.2.1.1:=hr.num;have hC:=g2.nC
  have hw:(((ì B (Ê c)).2.2.2.2.1.length:Int)-1)=(B.2.2.2.2.1.length:Int):=by simp[ì]
  have hSays:aq0 (ì B (Ê c)) (B.2.2.2.2.1.length:Int)=(Ū B (Ê c),0):=by
   have e:tF (ì B (Ê c)) (B.2.2.2.2.1.length:Int)=(Ê c,0):=by
    unfold tF;rw[if_neg (by simp[(ê _).2 g2]),if_neg (by simp[ì]; omega)];simp[ì]
   unfold aq0;rw[e,if_neg (by simp)];rfl
  have hCancel:Tz c.2.2.1 c.2.2.2.1=(ç c.2.2.1 c.2.2.2.1,ç c.2.2.2.1 c.2.2.1,0):=by
   have hnu:=(Η _).1 (g2.nums (AP (c:=Ê c)));have h6:mq c.2.2.1=true∧mq c.2.2.2.1=true:=⟨hnu.2.2.2.2.2.1,hnu.2.2.2.2.2.2⟩;unfold Tz;rw[h6.1,h6.2];rfl
  rw[Î (by rw[hp]; rfl),if_neg (by simp[hp]),show pm B (c.1,c.2.1,c.2.2.1,c.2.2.2.1,(0:Int),c.2.2.2.2.2)=pm B (Ê c) from rfl,aoC hs hr.num (c:=Ê c) hA hB,À,e1];dsimp only;rw[Î (by rfl),Ü,hw,Ò (by omega) (by omega),asL (g2.inn hn2),À,hSays,af4 (by omega) (by omega),À,hCancel,kv (g2.inn hn2),À,Ξ g2];dsimp only;refine(ann g2 _).trans ?_;have ex:cx (ì B (Ê c)) (Ê c)=atP (Ì (ì B (Ê c))) (ç c.2.2.1 c.2.2.2.1) c.2.1:=rfl;have ey:cy (ì B (Ê c)) (Ê c)=atP (Ì (ì B (Ê c))) (ç c.2.2.2.1 c.2.2.1) c.2.1:=rfl;rw[acr g2 hn2,À,acr g2 hn2,À,Tj g2 hn2,À,←ex,←ey,ajq g1 g2 ho _ (jg _) (Χ _ n),À,ajq g1 g2 ho _ (Χ _ n) (jg _),À];rfl
 ·rw[Ñ (bne_iff_ne.2 hp),if_pos hp];rfl
abbrev aj1:Type:=Þ×(Int×Int)×Bool×Int×List Int
def K7:aj1:=(i9,(0,0),false,0,[])
def kM (L:List Lk):Int→Int→List Int→Int×Int×Bool
 |u,s,[]=>(u,s,true)
 |u,s,i::t=>if (L[i.toNat]?.getD (0,0,0)).1=u then kM L (L[i.toNat]?.getD (0,0,0)).2.1 (s+(L[i.toNat]?.getD (0,0,0)).2.2) t else(0,0,false)
def υ (L:List Lk) (i:Int):Bool:=decide (i<0)||decide ((L.length:Int)≤i)
def Ι (L:List Lk) (l:List Int):Int:=if 80<l.length then 2 else if l.any (υ L) then 1 else 0
def Ŵ (L:List Lk) (u v:Int) (l:List Int):Int×Int :=
 if Ι L l≠0 then(0,Ι L l) else if (kM L u 0 l).2.2=true∧(kM L u 0 l).1=v then((kM L u 0 l).2.1,0) else(0,8)
def afA (u:Int) (w:Int×Int×Bool):Int:=if w.2.2=true∧w.1=u∧w.2.1<0 then 0 else 8
def ŋ (L:List Lk) (l:List Int):Int :=
 if Ι L l≠0 then Ι L l else match l with
 |[]=>8
 |i::_=>afA (L[i.toNat]?.getD (0,0,0)).1 (kM L (L[i.toNat]?.getD (0,0,0)).1 0 l)
section
variable {L:List Lk} {N:Nat}
def Xg (N:Int) (hL:L.length≤1000) (l:List Int):qI (N,L) l=some (Ι L l):=by
 unfold qI Eh Ι;dsimp only;rw[Ü]
 by_cases h:80<l.length
 ·rw[Ñ (decide_eq_true (by omega)),if_pos h]
 ·rw[Î (decide_eq_false (by omega)),if_neg h,←Ü l];refine(Ģ l (υ L) (fun z=>ifb (ige z 0) (some 1) (some 0)) (some 1) (some 0) (fun j=>by rw[show ige (j:Int) 0=true from decide_eq_true (by omega)]; rfl) (fun i a hi ha kn=>?_) (fun kn=>?_)).trans ?_
  ·try dsimp only
   unfold nu υ;rw[Ð hi,Ç ha,Ë hi (by omega),Ü,Č,Č]
   by_cases h1:a<0
   ·simp[ilt,h1]
   ·by_cases h2:(L.length:Int)≤a
    ·simp[ilt,ige,h1,h2]
    ·simp[ilt,ige,h1,h2]
  ·try dsimp only
   unfold nu;rw[Ù]
  ·cases l.any (υ L)<;>rfl
def ahC {l:List Int} (h:Ι L l=0):l.length≤80∧∀i∈l,0≤i∧i.toNat<L.length:=by
 unfold Ι at h
 split at h
 ·omega
 ·rename_i h1
  split at h
  ·omega
  ·rename_i h2;refine⟨by omega,fun i hi=>?_⟩;have:=eo.1 (ee.2 h2) i hi;simp[υ] at this;omega
def alM (hS:Ą L N) (u:Int) {l:List Int} (h:Ι L l=0):H9 ((N:Int),L) u l=some (kM L u 0 l):=by
 obtain⟨hl,hi⟩:=ahC h;unfold H9 Z2;dsimp only
 have:=n0 (f:=fun(v7:Int×Int×Int) kk11=>vY l (Ö l) L v7.1 v7.2.1 v7.2.2 (fun u8 u9 u10=>kk11 (u8,u9,u10)) (fun z5=>some (z5.1,z5.2.1,z5.2.2)) (fun z6=>some (z6.1,z6.2,true)))
  (F:=fun v=>some (kM L v.1 v.2.1 (l.drop v.2.2.toNat))) (fun v=>∃i:Nat,v.2.2=i∧i≤l.length∧(-(i*4503599627370496)≤v.2.1∧v.2.1≤i*4503599627370496)) (fun v=>l.length-v.2.2.toNat) (fun v hv kn hk=>?_) (x:=(u,(0:Int),(0:Int))) ⟨0,rfl,by omega,by simp⟩
 ·exact this
 ·obtain⟨w,s,n⟩:=v;obtain⟨i,e,h1,h2⟩:=hv;dsimp only at e h2 hk ⊢;subst e;rw[Int.toNat_natCast] at hk ⊢;unfold vY;rcases Nat.lt_or_ge i l.length with h3|h3
  ·have ha:l[i]?=some l[i]:=List.getElem?_eq_getElem h3;have hd:l.drop i=l[i]::l.drop (i+1):=List.drop_eq_getElem_cons h3;rw[hd];have hx:=hi l[i] (List.getElem_mem _);generalize l[i]=a at ha hx;have hg:L[a.toNat]?=some L[a.toNat]:=List.getElem?_eq_getElem hx.2;have hm:=hS.most _ (List.mem_of_getElem? hg);generalize L[a.toNat]=x at hg hm;rw[Ð h3,Ç ha,ip hx.1 hg];unfold kM;rw[hg];simp only[Option.getD_some]
   by_cases hc:x.1=w
   ·rw[Î (by rw[hc]; exact bne_self_eq_false' _),if_pos hc,Ò (by omega) (by omega),Ë h3 (by omega),hk _ ⟨i+1,by push_cast; rfl,h3,by dsimp only; push_cast; omega⟩ (by simp; omega)];simp
   ·rw[Ñ (bne_iff_ne.2 hc),if_neg hc]
  ·obtain rfl:i=l.length:=by omega
   rw[Ù,gV];rfl
def alN (hS:Ą L N):∀(l:List Int) (u s B:Int),-B≤s∧s≤B→-(B+l.length*4503599627370496)≤(kM L u s l).2.1∧(kM L u s l).2.1≤B+l.length*4503599627370496
 |[],u,s,B,h=>by simp[kM]; omega
 |i::t,u,s,B,h=>by
  unfold kM
  have hm : -4503599627370496≤(L[i.toNat]?.getD (0,0,0)).2.2∧(L[i.toNat]?.getD (0,0,0)).2.2≤4503599627370496:=by
   cases hg:L[i.toNat]? with
   |none=>simp
   |some x=>exact hS.most x (dg hg)
  split
  ·have:=alN hS t (L[i.toNat]?.getD (0,0,0)).2.1 (s+(L[i.toNat]?.getD (0,0,0)).2.2) (B+4503599627370496) (by omega);rw[dj];push_cast;omega
  ·dsimp only;omega
def IJ (hS:Ą L N) {u v:Int} (hu:0≤u∧u<N) (hv:0≤v∧v<N) (l:List Int):kq ((N:Int),L) u v l=some (Ŵ L u v l):=by
 have hl3:=hS.len;unfold kq td Ŵ
 have e1:(decide (0≤u)&&decide (u<(N:Int)))=true:=by simp[hu.1,hu.2]
 have e2:(decide (0≤v)&&decide (v<(N:Int)))=true:=by simp[hv.1,hv.2]
 rw[jZ hS,À,Î (by rfl),O6,À,e1,Î (by rfl),O6,À,e2,Î (by rfl),Xg _ (by omega),À]
 by_cases h:Ι L l=0
 ·rw[Î (by rw[h]; rfl),if_neg (by simp[h]),alM hS u h,À]
  cases h1:(kM L u 0 l).2.2 with
  |false=>rw[Ñ (by rfl),if_neg (by simp)]
  |true =>
   rw[Î (by rfl)]
   by_cases h2:(kM L u 0 l).1=v
   ·rw[Î (by rw[h2]; exact bne_self_eq_false' _),if_pos ⟨rfl,h2⟩]
   ·rw[Ñ (bne_iff_ne.2 h2),if_neg (fun h=>h2 h.2)]
 ·rw[Ñ (bne_iff_ne.2 h),if_pos h]
def afa {ρ α:Type} (x:α) (t:List α) (f:α→Option ρ):ï (x::t) (0:Int) f=f x:=rfl
def V3 (hS:Ą L N) (l:List Int):ny ((N:Int),L) l=some (ŋ L l):=by
 have hl3:=hS.len;unfold ny tc ŋ;rw[jZ hS,À,Î (by rfl),Xg _ (by omega),À]
 by_cases h:Ι L l=0
 ·rw[Î (by rw[h]; rfl),if_neg (by simp[h])]
  cases l with
  |nil=>rw[Ü]; rfl
  |cons i t =>
   have hx:=(ahC h).2 i (by simp);have hg:L[i.toNat]?=some L[i.toNat]:=List.getElem?_eq_getElem hx.2;generalize L[i.toNat]=x at hg;rw[Ü,Î (beq_eq_false_iff_ne.2 (by simp; omega)),afa,ip hx.1 hg,alM hS x.1 h,À];dsimp only;rw[hg];dsimp only[Option.getD_some];generalize kM L x.1 0 (i::t)=w;obtain⟨e,sum,ok⟩:=w;unfold afA;dsimp only
   cases ok with
   |false=>rw[Ñ (by rfl),if_neg (by simp)]
   |true =>
    rw[Î (by rfl)]
    by_cases h2:e=x.1
    ·rw[Î (by rw[h2]; exact bne_self_eq_false' _)]
     by_cases h3:sum<0
     ·rw[Î (decide_eq_false (by omega)),if_pos ⟨rfl,h2,h3⟩]
     ·rw[Ñ (decide_eq_true (by omega)),if_neg (fun h=>h3 h.2.2)]
    ·rw[Ñ (bne_iff_ne.2 h2),if_neg (fun h=>h2 h.2.1)]
 ·rw[Ñ (bne_iff_ne.2 h),if_pos h]
end
def pL (c:aj1):Int :=
 if â c.1≠0 then â c.1 else if A5 c.1 c.2.1.1 c.2.1.2=0 then 5 else
 if c.2.2.1 then(if Ŵ (Ø c.1) 0 (A5 c.1 c.2.1.1 c.2.1.2) c.2.2.2.2=(c.2.2.2.1,0) then 0 else 8)
 else(if Ŵ (Ø c.1) (A5 c.1 c.2.1.1 c.2.1.2) 0 c.2.2.2.2=(-c.2.2.2.1,0) then 0 else 8)
def iW (c:aj1):Int :=
 if â c.1≠0 then â c.1 else if c.2.1≠(0,0)∨c.2.2.1=true∨c.2.2.2.1≠0 then 1 else if ŋ (Ø c.1) c.2.2.2.2=0 then 0 else 8
def aia (b:Þ) (c:aj1):Bool×Int :=
 if â b≠0 then(false,â b) else
 if c.2.1=(0,0) then(if iW c≠0 then(false,iW c) else(E7 c.1 b,0)) else(if pL c≠0 then(false,pL c) else(E7 c.1 b,0))
def wr_neg {n:Int} (h:I64 n):arH (0-n)=if n = -9223372036854775808 then n else -n:=by
 have e:arH (0-n)=if (0-n) % 18446744073709551616≥9223372036854775808 then(0-n) % 18446744073709551616-18446744073709551616 else(0-n) % 18446744073709551616:=by
  simp[arH,IntKind.wrap,IntKind.bits,IntKind.signed]
 rw[e];unfold I64 at h
 split<;>split<;>omega
def Mg {c:aj1} (hI:In c.1) (hv:I64 c.2.2.2.1):mf c=some (pL c):=by
 unfold mf vV pL;rw[jo hI.size hI.num,À]
 by_cases hc:â c.1=0
 ·have hg:=(ê c.1).1 hc;rw[Î (by simp[ine,hc]),if_neg (show ¬(â c.1≠0) from fun h=>h hc),Tw hI,À,EL hg,kv hI,À,Ξ hg];dsimp only
  by_cases h0:A5 c.1 c.2.1.1 c.2.1.2=0
  ·rw[if_pos h0,if_pos h0]; rfl
  ·have hN:=hg.sys;have hr:=Χ c.1 c.2.1;have hz:=jg c.1;rw[if_neg h0,if_neg h0,Î (by rfl),show(((Ì c.1).length:Int)+1)=(((Ì c.1).length+1:Nat):Int) by push_cast; rfl];dsimp only;rw[show(∀f:Int→Option Int,ck (0-c.2.2.2.1) f=f (arH (0-c.2.2.2.1))) from fun f=>rfl,wr_neg hv]
   have key:∀(u v:Int) (t t':Int),(t'=t∨(t' = -9223372036854775808∧t=9223372036854775808))→(ifb (ine (Ŵ (Ø c.1) u v c.2.2.2.2).2 0) (some (8:Int)) (ifb (ine (Ŵ (Ø c.1) u v c.2.2.2.2).1 t') (some 8) (some 0)))=some (if Ŵ (Ø c.1) u v c.2.2.2.2=(t,0) then 0 else 8):=by
    intro u v t t' ht
    have hb : -9000000000000000000≤(Ŵ (Ø c.1) u v c.2.2.2.2).1∧(Ŵ (Ø c.1) u v c.2.2.2.2).1≤9000000000000000000:=by
     unfold Ŵ
     split
     ·simp
     ·rename_i hi
      split
      ·have:=alN hN c.2.2.2.2 u 0 0 (by simp);have:=(ahC (by simpa using hi)).1;dsimp only;omega
      ·simp
    generalize Ŵ (Ø c.1) u v c.2.2.2.2=p at hb ⊢
    by_cases h2:p.2=0
    ·rw[Î (by rw[h2]; rfl)]
     by_cases h1:p.1=t'
     ·have:p=(t,0):=Prod.ext (by rcases ht with h|h<;>omega) h2
      rw[Î (by rw[h1]; exact bne_self_eq_false' _),if_pos this]
     ·have:¬p=(t,0):=fun e=>by
       have e1:p.1=t:=by rw[e]
       rcases ht with h|h<;>omega
      rw[Ñ (bne_iff_ne.2 h1),if_neg this]
    ·have:¬p=(t,0):=fun e=>h2 (by rw[e]);rw[Ñ (bne_iff_ne.2 h2),if_neg this]
   unfold I64 at hv
   cases c.2.2.1 with
   |true =>
    rw[ė,IJ hN hz hr,À,key _ _ _ _ (.inl rfl)];rfl
   |false =>
    rw[æ,IJ hN hr hz,À,key _ _ (-c.2.2.2.1) _ (by split<;>omega)]
    rfl
 ·rw[Ñ (by simp[ine,hc]),if_pos hc]
def w8 {c:aj1} (hI:In c.1):jd c=some (iW c):=by
 unfold jd sZ iW;rw[jo hI.size hI.num,À]
 by_cases hc:â c.1=0
 ·have hg:=(ê c.1).1 hc;rw[Î (by simp[ine,hc]),if_neg (show ¬(â c.1≠0) from fun h=>h hc)]
  by_cases h1:c.2.1=(0,0)
  ·have e1:(!((õ c.2.1.1 0)&&((õ c.2.1.2 0)&&true)))=false:=by rw[h1]; rfl
   rw[e1,æ]
   cases h2:c.2.2.1 with
   |true=>rw[ė,if_pos (.inr (.inl rfl))]
   |false =>
    rw[æ]
    by_cases h3:c.2.2.2.1=0
    ·rw[Î (by rw[h3]; rfl),if_neg (by simp[h1,h3]),kv hI,À,Ξ hg,show(((Ì c.1).length:Int)+1)=(((Ì c.1).length+1:Nat):Int) by push_cast; rfl];dsimp only;rw[V3 hg.sys,À]
     by_cases h4:ŋ (Ø c.1) c.2.2.2.2=0
     ·rw[Î (by rw[h4]; rfl),if_pos h4]
     ·rw[Ñ (bne_iff_ne.2 h4),if_neg h4]
    ·rw[Ñ (bne_iff_ne.2 h3),if_pos (.inr (.inr h3))]
  ·have e1:(!((õ c.2.1.1 0)&&((õ c.2.1.2 0)&&true)))=true:=by
    rw[Prod.ext_iff] at h1;simp[õ];dsimp only at h1;omega
   rw[e1,ė,if_pos (.inl h1)]
 ·rw[Ñ (by simp[ine,hc]),if_pos hc]
def aoE {b:Þ} {c:aj1} (hb:In b) (hI:In c.1) (hv:I64 c.2.2.2.1):Bj b c=some (aia b c):=by
 unfold Bj J2 aia;rw[jo hb.size hb.num,À]
 by_cases hc:â b=0
 ·rw[Î (by simp[ine,hc]),if_neg (show ¬(â b≠0) from fun h=>h hc)]
  by_cases h1:c.2.1=(0,0)
  ·have e1:((õ c.2.1.1 0)&&((õ c.2.1.2 0)&&true))=true:=by rw[h1]; rfl
   rw[e1,ė,if_pos h1,w8 hI,À]
   by_cases h2:iW c=0
   ·rw[Î (by rw[h2]; rfl),if_neg (by simp[h2]),part_ok hI.size hb.size,À]
   ·rw[Ñ (bne_iff_ne.2 h2),if_pos h2]
  ·have e1:((õ c.2.1.1 0)&&((õ c.2.1.2 0)&&true))=false:=by
    rw[Prod.ext_iff] at h1;simp[õ];dsimp only at h1;omega
   rw[e1,æ,if_neg h1,Mg hI hv,À]
   by_cases h2:pL c=0
   ·rw[Î (by rw[h2]; rfl),if_neg (by simp[h2]),part_ok hI.size hb.size,À]
   ·rw[Ñ (bne_iff_ne.2 h2),if_pos h2]
 ·rw[Ñ (by simp[ine,hc]),if_pos hc]
def lF (b:Þ) (l:List Int):List (Int×Int):=l.map fun i=>(ĥ b)[i.toNat]?.getD (0,0)
def V9 {b:Þ} (hg:Ċ b) (hn:∀g∈b.2.1,I64 g.2.2.2.2.1.1) {l:List Int} (hl:l.length≤1000) (hi:∀i∈l,0≤i∧i.toNat<(Ø b).length):qG b l=some (lF b l):=by
 unfold qG D7;rw[kv (hg.inn hn),À,Ξ hg];refine ë l (fun i=>lF b (l.take i)) _ rfl (fun i a hlt ha kn=>?_) (fun kn=>?_)
 ·try dsimp only
  unfold nr;have hx:=hi a (List.mem_of_getElem? ha);have hs:(ĥ b)[a.toNat]?=some ((ĥ b)[a.toNat]'(by rw[IP hg]; exact hx.2)):=List.getElem?_eq_getElem _;generalize (ĥ b)[a.toNat]'(by rw[IP hg]; exact hx.2)=x at hs
  have hlen:(lF b (l.take i)).length≤1000:=by unfold lF; rw[List.length_map,List.length_take]; omega
  rw[Ð hlt,Ç ha,ip hx.1 hs,ğ (show ã ((lF b (l.take i)).length+[x].length)=true from Ó (show(lF b (l.take i)).length+1≤4294967296 by omega)),Ë hlt (by omega),take_succ ha];unfold lF;rw[List.map_append,List.map_singleton,hs];rfl
 ·try dsimp only
  unfold nr;rw[Ù,List.take_length]
def src_ok {b:Þ}:∀s∈ĥ b,aqZ b s:=by
 intro s hs;unfold ĥ at hs;rcases List.mem_append.1 hs with h|h
 ·have:=Sl s h; exact .inl this
 ·have:=SS s h; exact .inr this
def aiA {b:Þ} (hg:Ċ b) {l:List Int} (hi:∀i∈l,0≤i∧i.toNat<(Ø b).length):∀s∈lF b l,aqZ b s:=by
 intro s hs;obtain⟨i,h1,rfl⟩:=dP.1 hs;have hx:=hi i h1;have hsx:(ĥ b)[i.toNat]?=some ((ĥ b)[i.toNat]'(by rw[IP hg]; exact hx.2)):=cX _;rw[hsx];exact src_ok _ (fC _)
section
variable {L:List Lk} {N:Nat}
def KR (R:Nat→List Int) (good:Int→Bool):∀(k:Nat) (u sum:Int) (out:List Int),(∀i∈out,0≤i∧i.toNat<L.length)→(∀i∈jA L R good k u sum out,0≤i∧i.toNat<L.length)∧(jA L R good k u sum out).length≤out.length+k
 |0,u,sum,out,h=>⟨h,by simp[jA]⟩
 |k+1,u,sum,out,h=>by
  unfold jA
  cases hn:O7 L (R k) good u sum with
  |none =>
   have:=KR R good k u sum out h;exact⟨this.1,by have:=this.2; dsimp only; omega⟩
  |some i =>
   have hi:i<L.length:=by
    unfold O7 at hn;exact(List.findIdx?_eq_some_iff_getElem.1 hn).1
   have:=KR R good k (L[i]?.getD (0,0,0)).2.1 (sum+(L[i]?.getD (0,0,0)).2.2) (out++[(i:Int)]) (fun j hj=>by
    rcases dh.1 hj with h1|h1
    ·exact h j h1
    ·simp at h1; subst h1; simp; exact hi)
   exact⟨this.1,by have:=this.2; simp at this; dsimp only; omega⟩
def afC (N:Nat) (u v:Int):(∀i∈(Tx L N u v).1,0≤i∧i.toNat<L.length)∧(Tx L N u v).1.length≤N:=by
 unfold Tx
 split
 ·simp
 ·cases h:(i8 L N v N).findIdx? (fun x=>gv x u==(ix L N u v).1) with
  |none=>simp
  |some k =>
   have hk:=(List.findIdx?_eq_some_iff_getElem.1 h).1;rw[lu] at hk;have:=KR (L:=L) (exL L N v) (fun n=>ieq n (ix L N u v).1) k u 0 [] (by simp);exact⟨this.1,by have:=this.2; simp at this; dsimp only; omega⟩
end
def Mc (B:Þ) (n:Int×Int) (upper:Bool):List Int :=
 if upper then(Tx (Ø B) ((Ì B).length+1) 0 (A5 B n.1 n.2)).1 else(Tx (Ø B) ((Ì B).length+1) (A5 B n.1 n.2) 0).1
def yi (B:Þ) (n:Int×Int) (upper:Bool):Þ:=SQ B (lF B (Mc B n upper)) [n]
def certR (B:Þ) (n:Int×Int) (upper:Bool):aj1:=(yi B n upper,n,upper,(if upper then(ivR B n).2 else(ivR B n).1),Mc (yi B n upper) n upper)
def pr (b:Þ) (n:Int×Int) (upper:Bool):aj1×Int :=
 if (ě b [n]).2≠0 then(K7,(ě b [n]).2) else
 if â (yi (ě b [n]).1 n upper)≠0 then(K7,â (yi (ě b [n]).1 n upper)) else
 if Ĕ (Ø (yi (ě b [n]).1 n upper)) ((Ì (yi (ě b [n]).1 n upper)).length+1) then(certR (ě b [n]).1 n upper,0) else(K7,9)
def ak6 {ρ:Type}:@s8 ρ=@Đ ρ:=rfl
def amx {ρ:Type} (K:Option ρ):Í (fun(v23:Int) kk25=>s7 (0:Int) v23 (fun u24=>kk25 u24) (fun _=>K)) (0:Int)=K:=by
 refine ġ (fun x=>x=0) (fun _=>0) (fun x hx=>.inl fun kn=>?_) rfl;rw[hx];rfl
def aim {B:Þ} (h:Ċ B) (hn:∀g∈B.2.1,I64 g.2.2.2.2.1.1) (n:Int×Int) (upper:Bool):mg (B,NR B) n upper=some (Mc B n upper):=by
 unfold mg vW Mc;rw[Tj h hn,À,show(B,NR B).2=NR B from rfl,sJ]
 cases upper with
 |true=>rw[ė,aj0 h.sys (jg B) (Χ B n),À]; rfl
 |false=>rw[æ,aj0 h.sys (Χ B n) (jg B),À]; rfl
def ak4 {B:Þ} (h:Ċ B) (n:Int×Int) (upper:Bool):(∀i∈Mc B n upper,0≤i∧i.toNat<(Ø B).length)∧(Mc B n upper).length≤60:=by
 have hN:=h.sys.n60;unfold Mc
 split
 ·have:=afC (L:=Ø B) ((Ì B).length+1) 0 (A5 B n.1 n.2);exact⟨this.1,by have:=this.2; omega⟩
 ·have:=afC (L:=Ø B) ((Ì B).length+1) (A5 B n.1 n.2) 0;exact⟨this.1,by have:=this.2; omega⟩
def R0 (w:List Int):∀(l:List Cmp) (i:Nat),∀c∈tp w i l,c∈l
 |[],i,c,h=>by simp[tp] at h
 |a::l,i,c,h=>by
  simp only[tp] at h
  split at h
  ·rcases di.1 h with h|h
   ·rw[h]; simp
   ·exact gA _ (R0 w l (i+1) c h)
  ·exact gA _ (R0 w l (i+1) c h)
def arx {b:Þ} (h:In b) (ss:List (Int×Int)) {looks:List (Int×Int)} (hl:looks.length≤1000):In (SQ b ss looks):=by
 obtain⟨hs,hn⟩:=h;have g1:=hs.gauges; have g2:=hs.uses; have g3:=hs.loans; have g4:=hs.compares;unfold SQ;refine⟨⟨?_,?_,?_,?_,hl,fun c hc=>hs.piles c (R0 _ _ _ c hc)⟩,fun g hg=>hn g (List.mem_filter.1 hg).1⟩
 ·exact dG (dR _ _) g1
 ·exact dG (dR _ _) g2
 ·exact dG (dR _ _) g3
 ·exact dG (Sd _ _ _) g4
def alC {b:Þ} (hI:In b) (n:Int×Int) (upper:Bool):wR b n upper=some (pr b n upper):=by
 unfold wR Ef pr;rw[ak6];refine(vt hI (ns:=[n]) (by simp) (fun e=>some (K7,e)) (fun e he=>by rw[ğ (by simp[ine,he])]; rfl) (fun z he=>by rw[ğ (by simp[ine,he])]; rfl) (fun _ _ _=>rfl)).trans ?_
 split
 ·rfl
 ·rename_i e;have hr:=(nB hI (by simpa using e)).1;dsimp only;generalize (ě b [n]).1=B at hr ⊢;have hci:=ak4 hr.good n upper;have hpi:In (yi B n upper):=arx (hr.good.inn hr.num) _ (by simp)
  rw[Ae,show((((Ì B).length:Int)+1,Ø B):Sys)=NR B from rfl,aim hr.good hr.num,À,V9 hr.good hr.num (by omega) hci.1,À,
   arw hr.good.size (by unfold lF; rw[List.length_map]; omega) (by simp) (aiA hr.good hci.1),À,show SQ B (lF B (Mc B n upper)) [n]=yi B n upper from rfl,jo hpi.size hpi.num,À]
  by_cases hc:â (yi B n upper)=0
  ·have hg:=(ê _).1 hc;rw[Î (by simp[ine,hc]),if_neg (show ¬(â (yi B n upper)≠0) from fun h=>h hc)];refine(amx _).trans ?_;rw[kv hpi,À,Ξ hg,Î (by rfl)];dsimp only;rw[show((((Ì (yi B n upper)).length:Int)+1,Ø (yi B n upper)):Sys)=NR (yi B n upper) from rfl,sJ (yi B n upper),II hg.sys,À]
   cases ho:Ĕ (Ø (yi B n upper)) ((Ì (yi B n upper)).length+1) with
   |false=>rw[if_neg (by simp)]; rfl
   |true =>
    rw[if_pos rfl,←sJ (yi B n upper),Î (by rfl),Xb hr,À,aim hg hpi.num,À]
    cases upper with
    |true=>rw[ė,HI hr,À]; rfl
    |false=>rfl
  ·rw[Ñ (by simp[ine,hc]),if_pos hc,Ñ (by simp[ine,hc])];rfl
def ak1 {L:List Lk} {N:Nat} (h:Ą L N) (ho:Ĕ L N=true):mh ((N:Int),L)=some ([],5):=by
 have hN:=h.n60;unfold mh GS;rw[jZ h,À,Î (by rfl),vh h.links h.n1 (by omega),À,if_pos ho];rfl
def akd {b:Þ} (hI:In b) (hc:â b≠0):me b=some (K7,â b):=by
 unfold me zz;rw[kv hI,À];unfold Tr;rw[if_pos hc,Ñ (bne_iff_ne.2 hc)];rfl
def OH {b:Þ} (hg:Ċ b) (hn:∀g∈b.2.1,I64 g.2.2.2.2.1.1) (ho:Ĕ (Ø b) ((Ì b).length+1)=true):me b=some (K7,5):=by
 unfold me zz;rw[kv (hg.inn hn),À,Ξ hg,Î (by rfl),show((((Ì b).length:Int)+1,Ø b),ĥ b,(0:Int)).1=NR b from rfl,sJ,ak1 hg.sys ho,À];rfl
def anO {k:Int×Int} (hk:0<k.2) (m n:Int):0<arA (Fv k m) (Fv k n)↔k.1*n<k.1*m:=by
 obtain⟨g,g0,_,g1,g2⟩:=AM (n:=k.1*m) hk;obtain⟨h,h0,_,h1,h2⟩:=AM (n:=k.1*n) hk
 have key:(Fv k n).1*(Fv k m).2<(Fv k m).1*(Fv k n).2↔k.1*n<k.1*m:=by
  have e1:(Fv k n).1*(Fv k m).2*((g:Int)*h)=k.1*n*k.2:=by
   show(ot (k.1*n) k.2).1*(ot (k.1*m) k.2).2*((g:Int)*h)=k.1*n*k.2
   calc _=((ot (k.1*n) k.2).1*h)*((ot (k.1*m) k.2).2*g):=by ac_rfl
    _=_:=by rw[←h1,←g2]
  have e2:(Fv k m).1*(Fv k n).2*((g:Int)*h)=k.1*m*k.2:=by
   show(ot (k.1*m) k.2).1*(ot (k.1*n) k.2).2*((g:Int)*h)=k.1*m*k.2
   calc _=((ot (k.1*m) k.2).1*g)*((ot (k.1*n) k.2).2*h):=by ac_rfl
    _=_:=by rw[←g1,←h2]
  have pg:0<(g:Int)*h:=Int.mul_pos (by omega) (by omega);constructor
  ·intro hl;have:=Int.mul_lt_mul_of_pos_right hl pg;rw[e1,e2] at this;exact Int.lt_of_mul_lt_mul_right this (by omega)
  ·intro hl;have:=Int.mul_lt_mul_of_pos_right hl hk;rw[←e1,←e2] at this;exact Int.lt_of_mul_lt_mul_right this (by omega)
 rw[←key];unfold arA
 by_cases he:Fv k m=Fv k n
 ·rw[if_pos he,he];omega
 ·rw[if_neg he]
  split
  ·omega
  ·split<;>omega
def akm {k:Int×Int} (hk:0<k.2) {heat:Int×Int} (hh:heat.1≤heat.2):Yi k heat=if k.1<0 then(Fv k heat.2,Fv k heat.1) else(Fv k heat.1,Fv k heat.2):=by
 unfold Yi
 by_cases hn:k.1<0
 ·rw[if_pos hn]
  by_cases he:heat.1=heat.2
  ·rw[he]
   split<;>rfl
  ·rw[if_pos ((anO hk _ _).2 (Int.mul_lt_mul_of_neg_left (by omega) hn))]
 ·rw[if_neg hn,if_neg (fun h=>by
   have h1:=(anO hk _ _).1 h;have h2:=Int.mul_le_mul_of_nonneg_left hh (show 0≤k.1 by omega)
   omega)]
section
variable {b x:Þ}
def akK (h:Ċ b) {g g':é} (hg:g∈b.2.1) (hg':g'∈b.2.1) (e:g.1=g'.1):g=g':=by
 have h1:=ű h.ids hg;have h2:=ű h.ids hg';rw[e,h2] at h1;exact(Option.some.inj h1).symm
end
section
variable {b:Þ} {c d:Cmp}
end
section
variable {b x:Þ}
end
def afW {l m:List (Int×Int)} (hn:l.length≤1000000):kj l m=some (decide (l=m)):=by
 unfold kj sO;rw[Ü,Ü]
 by_cases hl:l.length=m.length
 ·rw[Î (by simp[ine,hl])];refine eP (ij l (fun i a=>if m[i]?=some a then none else some false) some (some true) (fun i a hi ha kn=>?_) (fun kn=>?_)) ?_
  ·try dsimp only
   unfold jJ;have hm:m[i]?=some m[i]:=List.getElem?_eq_getElem (by omega);rw[Ð hi,Ç ha,Ç hm,Ë hi (by omega),hm,Č]
   have e:(!(õ a.1 m[i].1&&(õ a.2 m[i].2&&true)))=decide (¬(m[i]=a)):=by
    rw[dO];simp only[õ,fB,eO,gw,decide_eq_false_iff_not,decide_eq_true_eq];constructor
    ·intro h e; rw[e] at h; simp at h
    ·intro h
     by_cases h1:a.1=m[i].1
     ·by_cases h2:a.2=m[i].2
      ·exact absurd (Prod.ext h1 h2).symm h
      ·exact .inr h2
     ·exact .inl h1
   rw[e]
   by_cases h:m[i]=a
   ·simp[h]
   ·simp[h]
  ·try dsimp only
   unfold jJ;rw[Ù]
  ·cases h:ģ (fun i a=>if m[i]?=some a then none else some false) 0 l with
   |none=>simp[ET hl h]
   |some b =>
    obtain⟨h1,h2⟩:=ES h;simp[h1,h2]
 ·rw[Ñ (by simp[ine]; omega)];have:l≠m:=fun e=>hl (by rw[e]);simp[this]
section
variable {b:Þ} {c d:Cmp} {s:Int×Int}
def ar2 (h:Pred b c s) : -10000000000000000≤s.1∧s.1≤s.2∧s.2≤10000000000000000:=by
 have q:=h.good2.cmp (AP (c:=Ê c));obtain⟨_,_,b1,b2,b3⟩:=ya (b:=b) h.good.film (c:=Ê c) ⟨q.nums,q.r1,q.r2⟩;have e1:ahx b c=K9 (Ĭ b (Ê c)).1+(i6 b (Ê c)).1-(Ê c).2.2.2.2.2.1:=rfl;have e2:EC b c=(Ĭ b (Ê c)).2.1 / (Ĭ b (Ê c)).2.2+(i6 b (Ê c)).2+(Ê c).2.2.2.2.2.1:=rfl;have o:=h.order;have n:=h.ends;have bd:=h.bd;omega
end
def θ (e:End):List Int:=[e.1-e.2.1,e.2.2-e.1,Int.tdiv (e.2.2-e.2.1) 2,Int.tdiv (e.2.2-e.2.1) 2-1,Int.tdiv (e.2.2-e.2.1) 2+1]
def tW (e:End) (n:Int):List Int:=[n-e.2.1,e.2.2-n]
def atE (e:End) (d:Int):Int:=min e.1 (min (e.2.1+d) (e.2.2-d))
def OB (w:Lf) (d:Int):Int×Int:=(-(atE w.2.2 d),atE w.2.1 d)
def akN (r:Int×Int) (n:Int):List Int:=[n-2,n-1,n,n+1,n+2].filter fun d=>decide (r.1<d)&&decide (d<r.2)
def TK (r:Int×Int) (l:List Int):List Int:=[r.1,r.2]++l.flatMap (akN r)
def ail (w:Lf) (l:List Int):Int:=l.foldl (fun m d=>max m ((OB w d).2-(OB w d).1)) (-1)
def alL (w:Lf):Int:=ail w (TK w.1 (θ w.2.1++θ w.2.2))
def Sm (n:Int):Prop:=-100000000000000000≤n∧n≤100000000000000000
structure abN (e:End):Prop where
 s:Sm e.1
 u:Sm e.2.1
 d:Sm e.2.2
structure abJ (w:Lf):Prop where
 lo:Sm w.1.1
 hi:Sm w.1.2
 high:abN w.2.1
 low:abN w.2.2
def ab4 (n:Int) : -1≤n-2*Int.tdiv n 2∧n-2*Int.tdiv n 2≤1:=by
 have h1:=Int.tmod_add_mul_tdiv n 2;have h2:=Int.tmod_two_eq n;omega
def NP {e:End} (h:abN e):iR e=some (θ e):=by
 obtain⟨⟨a1,a2⟩,⟨b1,b2⟩,c1,c2⟩:=h;have h2:=ab4 (e.2.2-e.2.1);unfold iR vO;rw[Ò (by omega) (by omega),Ò (by omega) (by omega),Ò (by omega) (by omega),Ò (by omega) (by omega),Ò (by omega) (by omega),Ò (by omega) (by omega)];rfl
def N3 {e:End} (h:abN e) {n:Int} (hn : -1000000000000000000≤n∧n≤1000000000000000000):iS e n=some (tW e n):=by
 obtain⟨⟨a1,a2⟩,⟨b1,b2⟩,c1,c2⟩:=h;unfold iS vP;rw[Ò (by omega) (by omega),Ò (by omega) (by omega)];rfl
def arF {e:End} (h:abN e) {d:Int} (hd:Sm d):uT e d=some (atE e d):=by
 obtain⟨⟨a1,a2⟩,⟨b1,b2⟩,c1,c2⟩:=h;obtain⟨d1,d2⟩:=hd;unfold uT J0;rw[Ò (by omega) (by omega),Ò (by omega) (by omega),wF,wF];unfold atE;congr 1;omega
def aox {e:End} (h:abN e) {d:Int} (hd:Sm d) : -200000000000000000≤atE e d∧atE e d≤100000000000000000:=by
 obtain⟨⟨a1,a2⟩,⟨b1,b2⟩,c1,c2⟩:=h;obtain⟨d1,d2⟩:=hd;unfold atE;omega
def al4 {w:Lf} (h:abJ w) {d:Int} (hd:Sm d):Ō w d=some (OB w d):=by
 unfold Ō sS;have b1:=aox h.low hd;rw[arF h.low hd,À,Ò (by omega) (by omega),arF h.high hd,À];unfold OB;rw[Int.zero_sub]
def aqg (r:Int×Int) (n:Int):(akN r n).length≤5:=dR _ _
def Sw (r:Int×Int):∀l:List Int,(l.flatMap (akN r)).length≤l.length*5
 |[]=>by simp
 |n::l=>by
  have h1:=aqg r n;have h2:=Sw r l;rw[dM,dc,dj];omega
def asd {ρ:Type} (r:Int×Int) {n:Int} (hn : -4000000000000000000≤n∧n≤4000000000000000000) {out:List Int} (ho:out.length≤1000) (K:List Int→Option ρ) :
 Í (fun(v9:(Val (.pair tI (.slice tI)))) kk12=>ic n r.1 r.2 v9.1 v9.2 (fun u10 u11=>kk12 (u10,u11)) K) (n-2,out)=K (out++akN r n):=by
 let five:List Int:=[n-2,n-1,n,n+1,n+2]
 have hg:∀(i:Nat),i<5→five[i]?=some (n-2+i):=by
  intro i hi
  have:i=0∨i=1∨i=2∨i=3∨i=4:=by omega
  rcases this with rfl|rfl|rfl|rfl|rfl<;>simp only[five,fk,List.getElem?_cons_succ]<;>congr 1<;>omega
 refine ġ (fun v=>∃i:Nat,i≤5∧v=(n-2+(i:Int),out++(five.take i).filter fun d=>decide (r.1<d)&&decide (d<r.2))) (fun v=>(n+3-v.1).toNat) ?_ ⟨0,by omega,by simp⟩;rintro v ⟨i,hi,rfl⟩;rcases dA i 5 with h5|h5
 ·refine .inr ⟨(n-2+((i+1:Nat):Int),out++(five.take (i+1)).filter fun d=>decide (r.1<d)&&decide (d<r.2)),⟨i+1,h5,rfl⟩,by dsimp only; omega,fun kn=>?_⟩;have hl:((five.take i).filter fun d=>decide (r.1<d)&&decide (d<r.2)).length≤5:=qB _ five i;dsimp only;unfold ic;rw[Ò (by omega) (by omega),Ñ (decide_eq_true (by omega)),take_succ (hg i h5),List.filter_append]
  have e0:n-2+(i:Int)+1=n-2+((i+1:Nat):Int):=by push_cast; omega
  by_cases h1:r.1<n-2+(i:Int)
  ·rw[Ñ (show igt (n-2+(i:Int)) r.1=true from decide_eq_true h1)]
   by_cases h2:n-2+(i:Int)<r.2
   ·rw[Ñ (show ilt (n-2+(i:Int)) r.2=true from decide_eq_true h2),ğ (Ó (by rw[dc]; simp only[dK]; omega)),Ò (by omega) (by omega),e0];simp[h1,h2]
   ·rw[Î (show ilt (n-2+(i:Int)) r.2=false from decide_eq_false h2),Ò (by omega) (by omega),e0];simp[h1,h2]
  ·rw[Î (show igt (n-2+(i:Int)) r.1=false from decide_eq_false h1),Ò (by omega) (by omega),e0];simp[h1]
 ·refine .inl fun kn=>?_
  obtain rfl:i=5:=by omega
  dsimp only;unfold ic;rw[Ò (by omega) (by omega),Î (decide_eq_false (by omega))];rfl
def amJ (w:Lf) {l:List Int} (hl:l.length≤100) (hn:∀n∈l,-2000000000000000000≤n∧n≤2000000000000000000):kp w l=some (TK w.1 l):=by
 unfold kp sT;refine ë l (fun i=>[w.1.1,w.1.2]++(l.take i).flatMap (akN w.1)) _ rfl (fun i n hi ha kn=>?_) (fun kn=>?_)
 ·try dsimp only
  unfold jN;have hb:=hn n (List.mem_of_getElem? ha);have h5:=Sw w.1 (l.take i)
  have ht:(l.take i).length≤100:=by rw[dm]; omega
  rw[Ð hi,Ç ha,Ò (by omega) (by omega)];refine(asd w.1 (by omega) (by rw[dc]; simp only[dj,dE]; omega) _).trans ?_;rw[Ë hi (by omega),take_succ ha,eZ,dz];simp
 ·try dsimp only
  unfold jN;rw[Ù,List.take_length];rfl
def apW {r:Int×Int} {l:List Int} {d:Int}:d∈TK r l↔d=r.1∨d=r.2∨(r.1<d∧d<r.2∧∃n∈l,n-2≤d∧d≤n+2):=by
 unfold TK akN;simp only[List.mem_append,List.mem_cons,List.not_mem_nil,or_false,List.mem_flatMap,List.mem_filter,Bool.and_eq_true,decide_eq_true_eq];constructor
 ·rintro((h|h)|⟨n,hn,h,h1,h2⟩)
  ·exact .inl h
  ·exact .inr (.inl h)
  ·exact .inr (.inr ⟨h1,h2,n,hn,by omega,by omega⟩)
 ·rintro(h|h|⟨h1,h2,n,hn,h3,h4⟩)
  ·exact .inl (.inl h)
  ·exact .inl (.inr h)
  ·exact .inr ⟨n,hn,by omega,h1,h2⟩
def ai1 (r:Int×Int) {l:List Int} (hl:l.length≤100):(TK r l).length≤600:=by
 have:=Sw r l;unfold TK;rw[List.length_append];simp only[List.length_cons,List.length_nil];omega
def amI {w:Lf} (h:abJ w) {l:List Int}:∀d∈TK w.1 l,Sm d:=by
 intro d hd;obtain⟨a1,a2⟩:=h.lo;obtain⟨b1,b2⟩:=h.hi;rcases apW.1 hd with h|h|⟨h1,h2,_⟩
 ·rw[h]; exact⟨a1,a2⟩
 ·rw[h]; exact⟨b1,b2⟩
 ·exact⟨by omega,by omega⟩
def NQ {e:End} (h:abN e):∀n∈θ e,-1000000000000000000≤n∧n≤1000000000000000000:=by
 obtain⟨⟨a1,a2⟩,⟨b1,b2⟩,c1,c2⟩:=h;have h2:=ab4 (e.2.2-e.2.1);intro n hn;unfold θ at hn;simp only[List.mem_cons,List.not_mem_nil,or_false] at hn;omega
def apd {w:Lf} (h:abJ w):mc w=some (alL w):=by
 unfold mc qg
 have hl:([θ w.2.1,θ w.2.2]:List (List Int)).flatten=θ w.2.1++θ w.2.2:=by simp
 have hll:(θ w.2.1++θ w.2.2).length=10:=rfl
 rw[NP h.high,À,NP h.low,À,pK (by simp) (by rw[hl,hll]; omega),À,hl,amJ w (by rw[hll]; omega) (fun n hn=>by
  rcases dh.1 hn with hn|hn
  ·have:=NQ h.high n hn; omega
  ·have:=NQ h.low n hn; omega),À]
 have hnl:=ai1 w.1 (l:=θ w.2.1++θ w.2.2) (by rw[hll]; omega);have hsm:=amI h (l:=θ w.2.1++θ w.2.2);unfold alL;generalize TK w.1 (θ w.2.1++θ w.2.2)=l at hnl hsm ⊢;refine ġ (fun v=>∃i:Nat,i≤l.length∧v=(ail w (l.take i),(i:Int))) (fun v=>l.length-v.2.toNat) ?_ ⟨0,by omega,rfl⟩;rintro v ⟨i,hi,rfl⟩;rcases Nat.lt_or_ge i l.length with h2|h2
 ·have ha:l[i]?=some l[i]:=List.getElem?_eq_getElem h2;have hs:=hsm l[i] (List.getElem_mem _);generalize l[i]=d at ha hs;refine .inr ⟨(ail w (l.take (i+1)),((i+1:Nat):Int)),⟨i+1,h2,rfl⟩,by dsimp only; omega,fun kn=>?_⟩;dsimp only;unfold jm;have b1:=aox h.low hs;have b2:=aox h.high hs;rw[Ð h2,Ç ha,show Ō ((w.1.1,w.1.2),(w.2.1.1,w.2.1.2.1,w.2.1.2.2),w.2.2.1,w.2.2.2.1,w.2.2.2.2) d=Ō w d from rfl,al4 h hs,À,Ò (by unfold OB; dsimp only; omega) (by unfold OB; dsimp only; omega),Ë h2 (by omega),ahB,take_succ ha];unfold ail;rw[List.foldl_append];rfl
 ·refine .inl fun kn=>?_
  obtain rfl:i=l.length:=by omega
  dsimp only;unfold jm;rw[Ù,List.take_length]
def aik {b:Þ} {n:Int×Int} {c:Cmp} (hp:(Ķ b c).2=0):abJ (abS b n c):=by
 obtain⟨g1,g2⟩:=pq hp;have ho:=Lu hp;have hb:=ar2 (acp hp);have hx:=De g2;have hy:=Dc g2;have b6:=ama g1 g2 ho
 have key:∀{s t:Int},0≤s∧s<((Ì (ì b (Ê c))).length+1:Nat)→0≤t∧t<((Ì (ì b (Ê c))).length+1:Nat)→abN (endP b (Ê c) s t):=by
  intro s t hs ht;have b1:=tr g1 g2 ho hs ht;have b2:=tr g1 g2 ho hs hy;have b3:=tr g1 g2 ho hx ht;have b4:=tr g1 g2 ho hs hx;have b5:=tr g1 g2 ho hy ht;unfold endP;exact⟨⟨by dsimp only; omega,by dsimp only; omega⟩,⟨by dsimp only; omega,by dsimp only; omega⟩,by dsimp only; omega,by dsimp only; omega⟩
 exact⟨⟨by show _≤(Ķ b c).1.1; omega,by show(Ķ b c).1.1≤_; omega⟩,⟨by show _≤(Ķ b c).1.2; omega,by show(Ķ b c).1.2≤_; omega⟩,key (jg _) (Χ _ n),key (Χ _ n) (jg _)⟩
def ajR (b:Þ) (n:Int×Int) (c:Cmp):Int×Int :=
 if (ě b [n]).2≠0 then(0,(ě b [n]).2) else if (Ķ (ě b [n]).1 c).2≠0 then(0,(Ķ (ě b [n]).1 c).2) else(alL (abS (ě b [n]).1 n c),0)
def ape {ρ:Type}:@zu ρ=@Đ ρ:=rfl
def aqY {b:Þ} (hI:In b) (n:Int×Int) {c:Cmp} (hA:c.2.2.1.length≤1000) (hB:c.2.2.2.1.length≤1000):Ak b n c=some (ajR b n c):=by
 unfold Ak QS ajR;rw[ape];refine(vt hI (ns:=[n]) (by simp) (fun e=>some ((0:Int),e)) (fun e he=>by rw[ğ (by simp[ine,he])]) (fun z he=>by rw[ğ (by simp[ine,he])]) (fun _ _ _=>rfl)).trans ?_
 split
 ·rfl
 ·rename_i e;have hr:=(nB hI (by simpa using e)).1;dsimp only;rw[Ae,show((((Ì (ě b [n]).1).length:Int)+1,Ø (ě b [n]).1):Sys)=NR (ě b [n]).1 from rfl,ae5 hr n hA hB,À];unfold aa2
  by_cases hp:(Ķ (ě b [n]).1 c).2=0
  ·rw[if_neg (by simp[hp]),if_neg (by simp[hp]),Î (by rfl),apd (aik hp),À]
  ·rw[if_pos hp,if_pos hp,Ñ (bne_iff_ne.2 hp)]
def alG (x:Int):Int:=max (-288230376151711744) (min x 288230376151711744)
def Dn (w:Lf) (l:Int×Int):List Int:=(θ w.2.1++θ w.2.2)++(tW w.2.1 l.1++tW w.2.2 (-l.1))++(tW w.2.1 l.2++tW w.2.2 (-l.2))
def aiC (w:Lf) (l:Int×Int):Bool:=(TK w.1 (Dn w l)).all fun d=>qT (OB w d) l != 3
def Om (b:Þ) (n l:Int×Int) (c:Cmp):Bool×Int :=
 if (ě b [n]).2≠0 then(false,(ě b [n]).2) else if l.2<l.1 then(false,1) else if (Ķ (ě b [n]).1 c).2≠0 then(false,(Ķ (ě b [n]).1 c).2) else(aiC (abS (ě b [n]).1 n c) (alG l.1,alG l.2),0)
def akb {ρ:Type}:@sX ρ=@Đ ρ:=rfl
def aru (x:Int):md x=some (alG x):=by
 unfold md vS alG;rw[wF,ahB]
def N4 {e:End} (h:abN e) {n:Int} (hn : -300000000000000000≤n∧n≤300000000000000000):∀m∈tW e n,-1000000000000000000≤m∧m≤1000000000000000000:=by
 obtain⟨⟨a1,a2⟩,⟨b1,b2⟩,c1,c2⟩:=h;intro m hm;unfold tW at hm;simp only[List.mem_cons,List.not_mem_nil,or_false] at hm;omega
def als {b:Þ} (hI:In b) (n l:Int×Int) {c:Cmp} (hA:c.2.2.1.length≤1000) (hB:c.2.2.2.1.length≤1000):qH b n l c=some (Om b n l c):=by
 unfold qH Ed Om;rw[akb];refine(vt hI (ns:=[n]) (by simp) (fun e=>some (false,e)) (fun e he=>by rw[Ñ (by simp[ine,he])]) (fun z he=>by rw[Ñ (by simp[ine,he])]) (fun _ _ _=>rfl)).trans ?_
 split
 ·rfl
 ·rename_i e;have hr:=(nB hI (by simpa using e)).1;dsimp only
  by_cases hl:l.2<l.1
  ·rw[Ñ (by simp[igt,hl]),if_pos hl]
  ·rw[Î (by simp[igt]; omega),if_neg hl,Ae,show((((Ì (ě b [n]).1).length:Int)+1,Ø (ě b [n]).1):Sys)=NR (ě b [n]).1 from rfl,ae5 hr n hA hB,À];unfold aa2
   by_cases hp:(Ķ (ě b [n]).1 c).2=0
   ·rw[if_neg (by simp[hp]),if_neg (by simp[hp]),Î (by rfl)];have hw:=aik (n:=n) hp;dsimp only;generalize abS (ě b [n]).1 n c=w at hw ⊢
    have f1 : -300000000000000000≤alG l.1∧alG l.1≤300000000000000000:=by unfold alG; omega
    have f2 : -300000000000000000≤alG l.2∧alG l.2≤300000000000000000:=by unfold alG; omega
    have q1:([θ w.2.1,θ w.2.2]:List (List Int)).flatten=θ w.2.1++θ w.2.2:=by simp
    have q2:∀x y z:List Int,([x,y,z]:List (List Int)).flatten=x++(y++z):=by intro x y z; simp
    rw[NP hw.high,À,NP hw.low,À,pK (by simp) (by rw[q1]; simp[θ]),À,q1,aru,À,aru,À];generalize alG l.1=l1 at f1 ⊢;generalize alG l.2=l2 at f2 ⊢
    rw[N3 hw.high (by omega),À,Ò (by omega) (by omega),Int.zero_sub,N3 hw.low (by omega),À,pK (by simp) (by rw[q2]; simp[θ,tW]),À,q2,
     N3 hw.high (by omega),À,Ò (by omega) (by omega),Int.zero_sub,N3 hw.low (by omega),À,pK (by simp) (by rw[q2]; simp[θ,tW]),À,q2]
    have hll:(Dn w (l1,l2)).length=18:=rfl;have qs:θ w.2.1++θ w.2.2++(tW w.2.1 l1++tW w.2.2 (-l1))++(tW w.2.1 l2++tW w.2.2 (-l2))=Dn w (l1,l2):=rfl
    rw[qs,amJ w (by rw[hll]; omega) (fun m hm=>by
     unfold Dn at hm;simp only[List.mem_append] at hm;rcases hm with((hm|hm)|(hm|hm))|(hm|hm)
     ·have:=NQ hw.high m hm; omega
     ·have:=NQ hw.low m hm; omega
     ·have:=N4 hw.high f1 m hm; omega
     ·have:=N4 hw.low (n:=-l1) (by omega) m hm; omega
     ·have:=N4 hw.high f2 m hm; omega
     ·have:=N4 hw.low (n:=-l2) (by omega) m hm; omega),À]
    have hnl:=ai1 w.1 (l:=Dn w (l1,l2)) (by rw[hll]; omega);have hsm:=amI hw (l:=Dn w (l1,l2));unfold aiC;generalize TK w.1 (Dn w (l1,l2))=ds at hnl hsm ⊢;refine(Ģ ds (fun d=>qT (OB w d) (l1,l2)==3) (fun z30=>some ((!(ige z30 (0:Int))),(0:Int))) (some (false,0)) (some (true,0)) (fun j=>by rw[show ige (j:Int) 0=true from decide_eq_true (by omega)]; rfl) (fun i d hi hd kn=>?_) (fun kn=>?_)).trans ?_
    ·try dsimp only
     unfold nt;rw[Ð hi,Ç hd,show Ō ((w.1.1,w.1.2),(w.2.1.1,w.2.1.2.1,w.2.1.2.2),w.2.2.1,w.2.2.2.1,w.2.2.2.2) d=Ō w d from rfl,al4 hw (hsm d (List.mem_of_getElem? hd)),À,V4,À,Ë hi (by omega),Č]
    ·try dsimp only
     unfold nt;rw[Ù]
    ·rw[show(fun d=>qT (OB w d) (l1,l2) != 3)=(fun d=>!(qT (OB w d) (l1,l2)==3)) from rfl,←List.not_any_eq_all_not]
     cases ds.any fun d=>qT (OB w d) (l1,l2)==3<;>rfl
   ·rw[if_pos hp,if_pos hp,Ñ (bne_iff_ne.2 hp)]
def af0 (b:Þ) (n:Int×Int):Prop:=∃g∈b.2.1,g.1=n.1∧n.2∈ß b g
section
variable {B:Þ} (h:asM B)
include h
end
def XF (c:Cmp):Bool:=decide (c.2.2.1.length≤10)&&decide (c.2.2.2.1.length≤10)
theorem aoo (c:Cmp):A9 c=some (XF c):=by
 unfold A9 Je XF;rw[Ü,Ü,Č]
 by_cases h:c.2.2.1.length≤10
 ·rw[if_pos (by simp[ile]; omega)];simp[ile,h];omega
 ·rw[if_neg (by simp[ile]; omega)];simp[h]
def fewP (b:Þ):Bool :=
 !((b.2.2.2.2.1.take 50).any fun c=>!XF c)&&(decide (b.2.1.length≤14)&&(decide (b.2.2.1.length≤45)&&(decide (b.2.2.2.1.length≤14)&&(decide (b.2.2.2.2.1.length≤42)&&decide (b.2.2.2.2.2.length≤12)))))
theorem art (b:Þ):HP b=some (fewP b):=by
 unfold HP Yu
 have last:(ifb (ile (Ö b.2.1) (14:Int)) (ifb (ile (Ö b.2.2.1) (45:Int)) (ifb (ile (Ö b.2.2.2.1) (14:Int)) (ifb (ile (Ö b.2.2.2.2.1) (42:Int)) (some (ile (Ö b.2.2.2.2.2) (12:Int))) (some false)) (some false)) (some false)) (some false)) =
  some (decide (b.2.1.length≤14)&&(decide (b.2.2.1.length≤45)&&(decide (b.2.2.2.1.length≤14)&&(decide (b.2.2.2.2.1.length≤42)&&decide (b.2.2.2.2.2.length≤12))))):=by
  have e:∀(n m:Nat),ile (n:Int) (m:Int)=decide (n≤m):=fun n m=>by simp[ile]
  rw[Ü,Ü,Ü,Ü,Ü,show(14:Int)=((14:Nat):Int) from rfl,show(45:Int)=((45:Nat):Int) from rfl,show(42:Int)=((42:Nat):Int) from rfl,show(12:Int)=((12:Nat):Int) from rfl,e,e,e,e,e];generalize decide (b.2.1.length≤14)=x1;generalize decide (b.2.2.1.length≤45)=x2;generalize decide (b.2.2.2.1.length≤14)=x3;generalize decide (b.2.2.2.2.1.length≤42)=x4
  cases x1<;>cases x2<;>cases x3<;>cases x4<;>rfl
 rw[last];refine eP (Ģ (b.2.2.2.2.1.take 50) (fun c=>!XF c) (fun _=>some false) (some false) (some (decide (b.2.1.length≤14)&&(decide (b.2.2.1.length≤45)&&(decide (b.2.2.2.1.length≤14)&&(decide (b.2.2.2.2.1.length≤42)&&decide (b.2.2.2.2.2.length≤12)))))) (fun _=>rfl) (fun i c hi hc kn=>?_) (fun kn=>?_)) ?_
 ·try dsimp only
  unfold vw;rw[List.length_take] at hi
  have hc':b.2.2.2.2.1[i]?=some c:=by rw[eG] at hc; split at hc<;>simp_all
  rw[Ð (show i<b.2.2.2.2.1.length by omega),Ñ (decide_eq_true (by omega)),Ç hc',aoo,À,Ò (by omega) (by omega),Č]
 ·try dsimp only
  unfold vw;rw[List.length_take,Č]
  split
  ·rename_i h
   have h':50<b.2.2.2.2.1.length:=by rw[Ü] at h; simp[ilt] at h; omega
   rw[Î (decide_eq_false (by omega))]
  ·rfl
 ·unfold fewP
  cases List.any (List.take 50 b.2.2.2.2.1) (fun c=>!XF c)<;>rfl
theorem ajl {b:Þ} (h:fewP b=true):ľ b:=by
 simp only[fewP,cZ,eO,decide_eq_true_eq] at h;obtain⟨h0,h1,h2,h3,h4,h5⟩:=h;refine⟨by omega,by omega,by omega,by omega,by omega,fun c hc=>?_⟩;rw[er (by omega)] at h0;have:=eo.1 h0 c hc;simp[XF] at this;omega
section
variable {L:List Lk} {N:Nat} {x y H G:Int}
def aqm (h:Ą L N) (ht:BX L N) (ho:Ĕ L N=true) {s t:Int} (hs:0≤s∧s<N) (hv:0≤t∧t<N):∃vs,Wl L (fun u=>u=s) vs t (dst L N s t):=by
 have h2:=h.n60;obtain⟨p,hp⟩:=(ō h.links (by omega)).1 ho;obtain⟨vs,hw⟩:=(jD h.links (by omega) hp hs).att t hv.1 hv.2 (ajs h ht ho hs hv);exact⟨vs,acZ.1 hw⟩
def ass (h:Ą L N) (ho:Ĕ L N=true) {s t d:Int} (hs:0≤s∧s<N) {vs:List Int} (hw:Wl L (fun u=>u=s) vs t d):dst L N s t≤d:=by
 have h2:=h.n60;obtain⟨p,hp⟩:=(ō h.links (by omega)).1 ho;exact(jD h.links (by omega) hp hs).low t vs d (acZ.2 hw)
end
inductive Wk (L:List Lk) (to:Int):Nat→Int→Int→Prop
 |nil:Wk L to 0 to 0
 |step {k:Nat} {v w m d:Int}:(v,w,m)∈L→Wk L to k w d→Wk L to (k+1) v (m+d)
section
variable {L:List Lk} {N:Nat}
def Wk.snoc {u v m:Int} (hl:(u,v,m)∈L):∀{k:Nat} {s d:Int},Wk L u k s d→Wk L v (k+1) s (d+m):=by
 intro k s d h
 induction h with
 |nil =>
  have:=Wk.step hl (Wk.nil (L:=L) (to:=v))
  have e:m+0=0+m:=by omega
  rw[e] at this;exact this
 | @step k a w m' d h1 h2 ih =>
  have:=Wk.step h1 ih
  have e:m'+(d+m)=m'+d+m:=by omega
  rw[e] at this;exact this
def Wl.front {s w m:Int} (hl:(s,w,m)∈L) {vs:List Int} {t d:Int} (h:Wl L (fun u=>u=w) vs t d):Wl L (fun u=>u=s) (vs++[s]) t (m+d):=by
 induction h with
 | @nil v hv =>
  have hv':v=w:=hv;subst hv';have:=Wl.step (Wl.nil (L:=L) (S:=fun u=>u=s) rfl) hl
  have e:0+m=m+0:=by omega
  rw[e] at this;exact this
 | @step vs u v m' d h1 h2 ih =>
  have:=Wl.step ih h2
  have e:m+d+m'=m+(d+m'):=by omega
  rw[e] at this;exact this
def Wk.wl {t:Int} {k:Nat} {s d:Int} (h:Wk L t k s d):∃vs,vs.length=k∧Wl L (fun u=>u=s) vs t d:=by
 induction h with
 |nil=>exact⟨[],rfl,.nil rfl⟩
 | @step k v w m d h1 h2 ih =>
  obtain⟨vs,e,h⟩:=ih;exact⟨vs++[v],by simp[e],h.front h1⟩
def Wk.bd (hS:Ą L N) {t:Int} {k:Nat} {s d:Int} (h:Wk L t k s d) : -(k*4503599627370496)≤d∧d≤k*4503599627370496:=by
 induction h with
 |nil=>omega
 | @step k v w m d h1 h2 ih =>
  have:=hS.most _ h1;dsimp only at this;push_cast;omega
def Sk {v:Int} (h0:0≤v) (h1:v<N):gv (List.replicate N ď) v=ď:=by
 unfold gv;rw[List.getElem?_replicate,if_pos (by omega)];rfl
def ap5 {B:Int} (hB:B≤1100000000000000000) {x:List Int} (hx:Lim B x) (v:Int):gv x v≤ď:=by
 by_cases h:gv x v=ď
 ·omega
 ·have:=hx v h; unfold ď; omega
def HM (hS:Ą L N) {B:Int} (hB:0≤B) (hB2:B≤1000000000000000000) {x:List Int} (hx:Lim B x) {v:Int} (h0:0≤v) (h1:v<N) :
 ∀(M:List Lk),(∀l∈M,l∈L)→∀y:List Int,y.length=N→Lim (B+4503599627370496) y →
  gv (M.foldl (iv x) y) v≤gv y v∧(∀w m,(v,w,m)∈M→gv x w≠ď→gv (M.foldl (iv x) y) v≤m+gv x w) ∧
  (gv (M.foldl (iv x) y) v=gv y v∨∃w m,(v,w,m)∈M∧gv x w≠ď∧gv (M.foldl (iv x) y) v=m+gv x w)
 |[],_,y,_,_=>⟨dQ _,fun _ _ h=>by simp at h,.inl rfl⟩
 |l::M,hM,y,hl,hy=>by
  rw[fU];have hlm:=hM l (by simp);obtain⟨i1,i2,i3⟩:=HM hS hB hB2 hx h0 h1 M (fun m hm=>hM m (by simp[hm])) (iv x y l) (by rw[KV,hl]) (ai7 hS hB hB2 hx hy hl hlm);have hr:=hS.inr l hlm;have hyF:=ap5 (by omega) hy
  -- the element behind one link
  have key:gv (iv x y l) v≤gv y v∧(l.1=v→gv x l.2.1≠ď→gv (iv x y l) v≤l.2.2+gv x l.2.1)∧(gv (iv x y l) v=gv y v∨(l.1=v∧gv x l.2.1≠ď∧gv (iv x y l) v=l.2.2+gv x l.2.1)):=by
   unfold iv
   by_cases hf:gv x l.2.1=ď
   ·rw[if_pos hf];exact⟨dQ _,fun _ h=>absurd hf h,.inl rfl⟩
   ·rw[if_neg hf,oK hr.1.1 h0 (by omega)]
    by_cases hv:v=l.1
    ·rw[if_pos hv,hv];refine⟨by omega,fun _ _=>by omega,?_⟩
     by_cases hc:gv y l.1≤l.2.2+gv x l.2.1
     ·exact .inl (by omega)
     ·exact .inr ⟨rfl,hf,by omega⟩
    ·rw[if_neg hv];exact⟨dQ _,fun h=>absurd h.symm hv,.inl rfl⟩
  obtain⟨k1,k2,k3⟩:=key;refine⟨by omega,fun w m hm hw=>?_,?_⟩
  ·rcases di.1 hm with h|h
   ·subst h;have:=k2 rfl hw;dsimp only at this;omega
   ·exact i2 w m h hw
  ·rcases i3 with h|⟨w,m,h,hw,e⟩
   ·rcases k3 with h'|⟨h',hw,e⟩
    ·exact .inl (h.trans h')
    ·refine .inr ⟨l.2.1,l.2.2,?_,hw,h.trans e⟩;rw[←h']; simp
   ·exact .inr ⟨w,m,by simp[h],hw,e⟩
def Ig (hS:Ą L N) {to:Int} (ht:0≤to∧to<N):∀k:Nat,k≤200→∀v:Int,0≤v→v<N →
 (gv (exL L N to k) v≠ď→Wk L to k v (gv (exL L N to k) v))∧∀d,Wk L to k v d→gv (exL L N to k) v≤d∧gv (exL L N to k) v≠ď
 |0,_,v,h0,h1=>by
  unfold exL;rw[oK ht.1 h0 (by simp; omega)]
  by_cases hv:v=to
  ·subst hv;rw[if_pos rfl];refine⟨fun _=>.nil,fun d hd=>?_⟩;cases hd;exact⟨dQ _,by decide⟩
  ·rw[if_neg hv,Sk h0 h1];refine⟨fun h=>absurd rfl h,fun d hd=>?_⟩;cases hd;exact absurd rfl hv
 |k+1,hk,v,h0,h1=>by
  have hlim:=tk hS ht k (by omega);obtain⟨i1,i2,i3⟩:=HM hS (B:=k*4503599627370496) (by omega) (by omega) hlim h0 h1 L (fun _ h=>h) (List.replicate N ď) (by simp) (KI (by omega));have ih:=Ig hS ht k (by omega);unfold exL Xv;refine⟨fun hf=>?_,fun d hd=>?_⟩
  ·rcases i3 with h|⟨w,m,h,hw,e⟩
   ·rw[Sk h0 h1] at h; exact absurd h hf
   ·rw[e];have hwr:=(hS.inr _ h).2;exact .step h ((ih w hwr.1 hwr.2).1 hw)
  ·have hb:=Wk.bd hS hd
   cases hd with
   | @step k' v' w m d h h2 =>
    have hwr:=(hS.inr _ h).2;obtain⟨j1,j2⟩:=(ih w hwr.1 hwr.2).2 d h2;have:=i2 w m h j2;refine⟨by omega,?_⟩
    have hq:(m+d)≤1000000000000000000:=by push_cast at hb; omega
    intro hF;rw[hF] at this;unfold ď at this;omega
def ajn (hS:Ą L N) {to:Int} (ht:0≤to∧to<N) {k:Nat} (hk:k+1≤200) {u:Int} (hu:0≤u∧u<N) (hf:gv (exL L N to (k+1)) u≠ď) :
 ∃w m,(u,w,m)∈L∧gv (exL L N to k) w≠ď∧gv (exL L N to (k+1)) u=m+gv (exL L N to k) w:=by
 have hlim:=tk hS ht k (by omega);obtain⟨_,_,i3⟩:=HM hS (B:=k*4503599627370496) (by omega) (by omega) hlim hu.1 hu.2 L (fun _ h=>h) (List.replicate N ď) (by simp) (KI (by omega));have e:exL L N to (k+1)=L.foldl (iv (exL L N to k)) (List.replicate N ď):=rfl;rw[e] at hf ⊢;rcases i3 with h|h
 ·rw[Sk hu.1 hu.2] at h; exact absurd h hf
 ·exact h
def Su (hS:Ą L N) {to:Int} (ht:0≤to∧to<N) (good:Int→Bool):∀(k:Nat),k≤200→∀(u sum:Int) (out:List Int),0≤u→u<N→gv (exL L N to k) u≠ď→good (sum+gv (exL L N to k) u)=true →
 ∃q,jA L (exL L N to) good k u sum out=out++q∧q.length=k∧(∀i∈q,υ L i=false)∧∃s,kM L u sum q=(to,s,true)∧good s=true
 |0,_,u,sum,out,h0,h1,hf,hg=>by
  have hu:u=to:=by
   have hw:=((Ig hS ht 0 (by omega) u h0 h1).1 hf);generalize gv (exL L N to 0) u=y at hw;cases hw;rfl
  subst hu
  have e:gv (exL L N u 0) u=0:=by
   unfold exL;rw[oK ht.1 h0 (by simp; omega),if_pos rfl]
  rw[e,gd] at hg;exact⟨[],by simp[jA],rfl,by simp,sum,rfl,hg⟩
 |k+1,hk,u,sum,out,h0,h1,hf,hg=>by
  obtain⟨w,m,hl,hw,e⟩:=ajn hS ht hk ⟨h0,h1⟩ hf;unfold jA O7
  cases hn:L.findIdx? (fun l=>l.1==u&&(decide (gv (exL L N to k) l.2.1≠ď)&&good (sum+l.2.2+gv (exL L N to k) l.2.1))) with
  |none =>
   have:=dT.1 hn (u,w,m) hl;rw[e,←Int.add_assoc] at hg;simp[hw,hg] at this
  |some i =>
   obtain⟨hi,hp,_⟩:=List.findIdx?_eq_some_iff_getElem.1 hn;have hg2:L[i]?=some L[i]:=List.getElem?_eq_getElem hi;have hm:=List.mem_of_getElem? hg2;generalize L[i]=x at hp hg2 hm;simp only[Bool.and_eq_true,beq_iff_eq,decide_eq_true_eq] at hp;obtain⟨p1,p2,p3⟩:=hp;have hr:=(hS.inr x hm).2;obtain⟨q,q1,q2,q3,s,q4,q5⟩:=Su hS ht good k (by omega) x.2.1 (sum+x.2.2) (out++[(i:Int)]) hr.1 hr.2 p2 p3;dsimp only;rw[hg2];simp only[Option.getD_some];refine⟨(i:Int)::q,by rw[q1]; simp,by simp[q2],fun j hj=>?_,s,?_,q5⟩
   ·rcases di.1 hj with rfl|hj
    ·simp[υ]; omega
    ·exact q3 j hj
   ·unfold kM;rw[Int.toNat_natCast,hg2];simp only[Option.getD_some];rw[if_pos p1];exact q4
def ap7 {P:Int→Prop} {B:Int} (h:∃d,P d) (hB:∀d,P d→B≤d):∃d,P d∧∀e,P e→d≤e:=by
 obtain⟨d0,h0⟩:=h
 have:∀(n:Nat) (d:Int),P d→(d-B).toNat≤n→∃d,P d∧∀e,P e→d≤e:=by
  intro n
  induction n with
  |zero=>intro d hd hn; exact⟨d,hd,fun e he=>by have:=hB e he; have:=hB d hd; omega⟩
  |succ n ih =>
   intro d hd hn
   by_cases hx:∃e,P e∧e<d
   ·obtain⟨e,he,hl⟩:=hx;exact ih e he (by have:=hB e he; omega)
   ·exact⟨d,hd,fun e he=>by
     rcases gM e d with q|q
     ·exact absurd ⟨e,he,q⟩ hx
     ·exact q⟩
 exact this _ d0 h0 (cY _)
def Wl.cutK {S:Int→Prop} {vs:List Int} {u d:Int} (h:Wl L S vs u d):∀x∈u::vs,∃vs1 d1 k d2,Wl L S vs1 x d1∧(x::vs1) <:+ (u::vs)∧Wk L u k x d2∧d=d1+d2∧k≤vs.length:=by
 induction h with
 | @nil v hv =>
  intro x hx;simp at hx;subst hx;exact⟨[],0,0,0,.nil hv,List.suffix_refl _,.nil,by omega,by simp⟩
 | @step vs u v m d hw hl ih =>
  intro x hx;rcases di.1 hx with rfl|hx
  ·exact⟨u::vs,d+m,0,0,.step hw hl,List.suffix_refl _,.nil,by omega,by simp⟩
  ·obtain⟨vs1,d1,k,d2,g1,g2,g3,g4,g5⟩:=ih x hx;exact⟨vs1,d1,k+1,d2+m,g1,g2.trans (List.suffix_cons _ _),g3.snoc hl,by omega,by simp; omega⟩
def Ja (hS:Ą L N) (hno:Ĕ L N=false):∃(k:Nat) (v d:Int),1≤k∧k≤N∧(0≤v∧v<N)∧Wk L v k v d∧d<0:=by
 have hn:=hS.n60;apply Classical.byContradiction;intro hc
 have hcl:∀{k:Nat} {v d:Int},1≤k→k≤N→(0≤v∧v<N)→Wk L v k v d→0≤d:=fun {k v d} h1 h2 h3 h4=>by
  rcases gM d 0 with q|q
  ·exact absurd ⟨k,v,d,h1,h2,h3,h4,q⟩ hc
  ·exact q
 have hinr:∀l∈L,-4503599627370496≤l.2.2:=fun l hl=>(hS.most l hl).1
 let P:Int→Int→Prop:=fun v d=>∃vs,Wl L (fun u=>0≤u∧u<N) vs v d∧(v::vs).Nodup
 have hP:∀v:Int,0≤v∧v<N→∃d,P v d∧∀e,P v e→d≤e:=fun v hv=>ap7 (B:=-(60*4503599627370496)) ⟨0,[],.nil hv,by simp⟩ (by
  rintro d ⟨vs,h1,h2⟩;have q1:=h1.lowM hinr;have q2:=h1.short hS.inr (fun w hw=>hw) h2
  have:((vs.length:Nat):Int)*4503599627370496≤60*4503599627370496:=by omega
  omega)
 have ho:Ĕ L N=true:=by
  refine(ō hS.links (by omega)).2 ⟨fun v=>if hv:0≤v∧v<(N:Int) then Classical.choose (hP v hv) else 0,fun u v m hl=>?_⟩;have hr:=hS.inr _ hl;dsimp only at hr;obtain⟨⟨vs,hw,hnd⟩,hu2⟩:=Classical.choose_spec (hP u hr.1);obtain⟨_,hv2⟩:=Classical.choose_spec (hP v hr.2);have e1:(if hv:0≤u∧u<(N:Int) then Classical.choose (hP u hv) else 0)=Classical.choose (hP u hr.1):=dif_pos hr.1;have e2:(if hv:0≤v∧v<(N:Int) then Classical.choose (hP v hv) else 0)=Classical.choose (hP v hr.2):=dif_pos hr.2;dsimp only;rw[e1,e2];generalize Classical.choose (hP u hr.1)=a at *;generalize Classical.choose (hP v hr.2)=b at *
  by_cases hv:v∈u::vs
  ·obtain⟨vs1,d1,k,d2,g1,g2,g3,g4,g5⟩:=hw.cutK v hv;have hlen:=hw.short hS.inr (fun w hw=>hw) hnd;have:=hcl (by omega) (by omega) hr.2 (g3.snoc hl);have:=hv2 d1 ⟨vs1,g1,hnd.sublist g2.sublist⟩;omega
  ·have:=hv2 (a+m) ⟨u::vs,hw.step hl,fX.2 ⟨hv,hnd⟩⟩;omega
 rw[hno] at ho;cases ho
def Μ (L:List Lk) (N:Nat) (k:Nat) (l:Lk):Bool:=decide (gv (exL L N l.1 k) l.2.1≠ď)&&decide (l.2.2+gv (exL L N l.1 k) l.2.1<0)
def alp (hS:Ą L N) (hno:Ĕ L N=false):∃k,k<N∧∃l∈L,Μ L N k l=true:=by
 have hn:=hS.n60;obtain⟨k,v,d,h1,h2,h3,h4,h5⟩:=Ja hS hno
 cases h4 with
 |nil=>omega
 | @step k v w m d hl hk =>
  have hr:=hS.inr _ hl;obtain⟨e1,e2⟩:=(Ig hS h3 k (by omega) w hr.2.1 hr.2.2).2 d hk;refine⟨k,by omega,(v,w,m),hl,?_⟩;simp only[Μ,cZ,decide_eq_true_eq];exact⟨e2,by omega⟩
def Aw (hS:Ą L N) {k:Nat} (hk:k<N) {l:Lk} (hl:l∈L) (hb:Μ L N k l=true) :
 ∃q,jA L (exL L N l.1) (fun n=>ilt n 0) (k+1) l.1 0 []=q∧q.length=k+1∧(∀i∈q,υ L i=false)∧ŋ L q=0∧∃u s,kM L u 0 q=(u,s,true)∧s<0:=by
 have hn:=hS.n60;have hr:=hS.inr _ hl;simp only[Μ,cZ,decide_eq_true_eq] at hb;have hlim:=tk hS hr.1 k (by omega);obtain⟨_,i2,_⟩:=HM hS (B:=k*4503599627370496) (by omega) (by omega) hlim hr.1.1 hr.1.2 L (fun _ h=>h) (List.replicate N ď) (by simp) (KI (by omega));have h2:gv (exL L N l.1 (k+1)) l.1≤l.2.2+gv (exL L N l.1 k) l.2.1:=i2 l.2.1 l.2.2 hl hb.1
 have hne:gv (exL L N l.1 (k+1)) l.1≠ď:=fun h=>by rw[h] at h2; unfold ď at h2; omega
 obtain⟨q,q1,q2,q3,s,q4,q5⟩:=Su hS hr.1 (fun n=>ilt n 0) (k+1) (by omega) l.1 0 [] hr.1.1 hr.1.2 hne (by rw[gI]; exact decide_eq_true (by omega));rw[fM] at q1;have hs:s<0:=of_decide_eq_true q5;refine⟨q,q1,q2,q3,?_,l.1,s,q4,hs⟩
 have hany:q.any (υ L)=false:=by
  rw[eo]
  exact fun i hi=>by rw[q3 i hi]; simp
 cases q with
 |nil=>simp at q2
 |cons i t =>
  have hi:=q3 i (by simp);simp only[υ,fI,decide_eq_false_iff_not] at hi;have hg:L[i.toNat]?=some L[i.toNat]:=cX (by omega)
  have hfst:(L[i.toNat]?.getD (0,0,0)).1=l.1:=by
   unfold kM at q4
   by_cases h:(L[i.toNat]?.getD (0,0,0)).1=l.1
   ·exact h
   ·rw[if_neg h] at q4; simp at q4
  have hix:Ι L (i::t)=0:=by
   unfold Ι;rw[if_neg (by omega),hany];rfl
  unfold ŋ;rw[hix,if_neg (by simp)];dsimp only;rw[hfst,q4];unfold afA;dsimp only;rw[if_pos ⟨rfl,rfl,hs⟩]
end
def ak5 {b:Þ} (h:In b) (n:Int×Int) (upper:Bool):In (pr b n upper).1.1:=by
 have h0:In i9:=⟨⟨by simp[i9],by simp[i9],by simp[i9],by simp[i9],by simp[i9],by simp[i9]⟩,by simp[i9]⟩;unfold pr
 by_cases e:(ě b [n]).2=0
 ·rw[if_neg (by simp[e])];have hr:=(nB h e).1
  split
  ·exact h0
  ·split
   ·exact arx (hr.good.inn hr.num) _ (by simp)
   ·exact h0
 ·rw[if_pos e]; exact h0
def y1:IH exB (2,10)=((984,1011),0):=by decide +kernel
def y2:IH exB (1,30)=((964,1005),0):=by decide +kernel
def y3:abP exB (1,10) (2,10)=((-6,11),0):=by decide +kernel
def y4:asR exB 10 [1,2]=((1979,2018),0):=by decide +kernel
def y5:ao2 exB (2,0) (990,1010)=(3,0):=by decide +kernel
def y6:(pr exB (2,10) true).2=0∧(pr exB (2,10) true).1.2.2.2.1=1011:=by decide +kernel
def y7:ajR exB (2,10) exC=(10,0):=by decide +kernel
def y8:Om exB (2,10) (900,1100) exC=(true,0):=by decide +kernel
def y9:aia exB (pr exB (2,10) true).1=(true,0):=by decide +kernel
def y10:â exB=0∧Ĕ (Ø exB) ((Ì exB).length+1)=true:=by decide +kernel
def y11:pL (pr exB (2,10) true).1=0:=by decide +kernel
def ake:iQ=some true:=by
 unfold iQ DE Ag yq;have hc:=ak5 Aq (2,10) true
 have hv:I64 (pr exB (2,10) true).1.2.2.2.1:=by rw[y6.2]; unfold I64; omega
 rw[À];rw[show((((0:Int),(2:Int)),[((1:Int),(0:Int),(1000:Int),((-5:Int),(5:Int)),((1:Int),(10:Int)),(1:Int)),((2:Int),(0:Int),(1000:Int),((-50:Int),(50:Int)),((1:Int),(4:Int)),(0:Int))],[((1:Int),(10:Int))],[((1:Int),((20:Int),(29:Int)),(3:Int))],[((7:Int),(10:Int),[(1:Int)],[(2:Int)],(-20:Int),(1:Int),(100:Int),(200:Int))],([]:List (Int×Int))):Þ)=exB from rfl];rw[Tv Aq,À,Tv Aq,À,alD Aq,À,asQ Aq _ (by decide),À,aq9 Aq,À,alC Aq,À,y1,y2,y3,y4,y5,y6.1,y6.2]
 rw[show Ak exB ((2:Int),(10:Int)) ((8:Int),(10:Int),[(1:Int)],[(2:Int)],(0:Int),(0:Int),(0:Int),(0:Int))=some (ajR exB (2,10) exC) from aqY Aq _ (c:=exC) (by decide) (by decide),
  show qH exB ((2:Int),(10:Int)) ((900:Int),(1100:Int)) ((8:Int),(10:Int),[(1:Int)],[(2:Int)],(0:Int),(0:Int),(0:Int),(0:Int))=some (Om exB (2,10) (900,1100) exC) from als Aq _ _ (c:=exC) (by decide) (by decide),
  aoE Aq hc hv,OH ((ê _).1 y10.1) Aq.num y10.2,Mg hc hv,y7,y8,y9,y11]
 rfl
theorem OC {L:List Lk} {N:Nat} {v:Int} (h0:0≤v) (h1:v<N):gv (solP L N) v=gv (Ī L N) v-gv (Ī L N) 0:=by
 have hl:(Ī L N).length=N:=by unfold Ī; rw[Į,ú]
 have h2:v.toNat<(Ī L N).length:=by omega
 unfold solP;generalize gv (Ī L N) 0=z;unfold gv;rw[List.getElem?_map,List.getElem?_eq_getElem h2];rfl
theorem apB {L:List Lk} {N:Nat} (h:Ą L N) (ho:Ĕ L N=true):Pot L (gv (solP L N))∧gv (solP L N) 0=0:=by
 have h2:=h.n60;have h1:=h.n1;obtain⟨p,hp⟩:=(ō h.links (by omega)).1 ho;refine⟨fun u v m hl=>?_,by rw[OC (by omega) (by omega)]; omega⟩;have hr:=h.inr _ hl
 have hlen:(Ī L N).length=N:=by unfold Ī; rw[Į,ú]
 have hu:gv (Ī L N) u≤0:=(XT h.links (by omega) ho _ (List.mem_of_getElem? (Xi (by omega)))).2;have:=(AJ h.links (by omega) hp).pot h.inr hl (by show gv (Ī L N) u≠ď; unfold ď; omega);have e1:=OC (L:=L) hr.1.1 hr.1.2;have e2:=OC (L:=L) hr.2.1 hr.2.2;dsimp only at e1 e2;have e:gv (Ī L N) v≤gv (Ī L N) u+m:=this;omega
section
variable {B:Þ} (h:asM B)
include h
end
def TB (N:Nat) (g:Int→Int):List Int:=(List.range N).map fun(v:Nat)=>g v
def sI (N:Nat) (f:Int→Int→Int):List (List Int):=(List.range N).map fun(u:Nat)=>TB N (f u)
section
variable {N:Nat} {ρ:Type}
def apK (g:Int→Int):(TB N g).length=N:=by simp[TB]
def apt (f:Int→Int→Int):(sI N f).length=N:=by simp[sI]
def kz (g:Int→Int):ā (TB N g)=(N:Int):=by unfold ā; rw[apK]
def oO (f:Int→Int→Int):ā (sI N f)=(N:Int):=by unfold ā; rw[apt]
def aiG (g:Int→Int) {v:Int} (h0:0≤v) (h1:v<N):(TB N g)[v.toNat]?=some (g v):=by
 unfold TB;rw[List.getElem?_map,List.getElem?_range (by omega),Option.map_some,show((v.toNat:Nat):Int)=v by omega]
def aix (f:Int→Int→Int) {u:Int} (h0:0≤u) (h1:u<N):(sI N f)[u.toNat]?=some (TB N (f u)):=by
 unfold sI;rw[List.getElem?_map,List.getElem?_range (by omega),Option.map_some,show((u.toNat:Nat):Int)=u by omega]
def jj (f:Int→Int→Int) {u:Int} (h0:0≤u) (h1:u<N) (K:List Int→Option ρ):Ĩ (sI N f) u.toNat K=K (TB N (f u)):=jI (aix f h0 h1) K
def jH (g:Int→Int) {v:Int} (h0:0≤v) (h1:v<N) (K:Int→Option ρ):Ĩ (TB N g) v.toNat K=K (g v):=jI (aiG g h0 h1) K
def X0 {g g':Int→Int} (h:∀v:Int,0≤v→v<N→g v=g' v):TB N g=TB N g':=by
 unfold TB;refine List.map_congr_left fun v hv=>?_;have:=List.mem_range.1 hv;exact h v (by omega) (by omega)
def jq {f f':Int→Int→Int} (h:∀u v:Int,0≤u→u<N→0≤v→v<N→f u v=f' u v):sI N f=sI N f':=by
 unfold sI;refine List.map_congr_left fun u hu=>?_;have:=List.mem_range.1 hu;exact X0 fun v h0 h1=>h u v (by omega) (by omega) h0 h1
def al7 {α:Type} (F:Nat→α) (N i:Nat) (x:α):((List.range N).map F).set i x=(List.range N).map fun j=>if j=i then x else F j:=by
 refine List.ext_getElem? fun j=>?_;rw[f0,f5,f5];rcases dA j N with hj|hj
 ·rw[fq hj]
  by_cases h:i=j
  ·subst h;rw[if_pos rfl,if_pos (by simpa using hj)];simp
  ·rw[if_neg h];simp[Ne.symm h]
 ·rw[fW (l:=List.range N) (by simpa using hj)]
  by_cases h:i=j
  ·subst h;rw[if_pos rfl,if_neg (by simp; omega)];rfl
  ·rw[if_neg h];rfl
def agn (g:Int→Int) {v:Int} (h0:0≤v) (x:Int):(TB N g).set v.toNat x=TB N fun b=>if b=v then x else g b:=by
 unfold TB;rw[al7];refine List.map_congr_left fun j _=>?_
 by_cases h:j=v.toNat
 ·rw[if_pos h]; exact(if_pos (by omega)).symm
 ·rw[if_neg h]; exact(if_neg (by omega)).symm
def XV (f:Int→Int→Int) {u v:Int} (h0:0≤u) (h1:0≤v) (x:Int):(sI N f).set u.toNat ((TB N (f u)).set v.toNat x)=sI N fun a b=>if a=u∧b=v then x else f a b:=by
 rw[agn _ h1];unfold sI;rw[al7];refine List.map_congr_left fun j _=>?_
 by_cases h:j=u.toNat
 ·have hj:(j:Int)=u:=by omega
  rw[if_pos h,hj];congr 1;funext b
  by_cases hb:b=v<;>simp[hb]
 ·rw[if_neg h];congr 1;funext b;exact(if_neg (by omega)).symm
end
inductive WI (L:List Lk) (k u:Int):Int→Int→Prop
 |nil:WI L k u u 0
 |one {v m:Int}:(u,v,m)∈L→WI L k u v m
 |step {w v d m:Int}:WI L k u w d→0≤w→w<k→(w,v,m)∈L→WI L k u v (d+m)
section
variable {L:List Lk} {N:Nat} {k u:Int}
def WI.mono {k':Int} (hk:k≤k') {v d:Int} (h:WI L k u v d):WI L k' u v d:=by
 induction h with
 |nil=>exact .nil
 |one h=>exact .one h
 |step _ h0 h1 h2 ih=>exact ih.step h0 (by omega) h2
def WI.app {w v d e:Int} (h1:WI L k u w d) (h2:WI L k w v e) (h0:0≤w) (hk:w<k):WI L k u v (d+e):=by
 induction h2 with
 |nil=>rw[gd]; exact h1
 |one h=>exact h1.step h0 hk h
 | @step x v e m _ g0 g1 g2 ih =>
  have:=ih.step g0 g1 g2;rw[Int.add_assoc] at this;exact this
def WI.wl {v d:Int} (h:WI L k u v d):∃vs,Wl L (fun x=>x=u) vs v d:=by
 induction h with
 |nil=>exact⟨[],.nil rfl⟩
 | @one v m h =>
  have:=Wl.step (Wl.nil (L:=L) (S:=fun x=>x=u) rfl) h;rw[gI] at this;exact⟨_,this⟩
 |step _ _ _ h2 ih =>
  obtain⟨vs,h⟩:=ih;exact⟨_,h.step h2⟩
def WI.of_wl (hL:InR L N) (hk:(N:Int)≤k) {vs:List Int} {v d:Int} (h:Wl L (fun x=>x=u) vs v d):WI L k u v d:=by
 induction h with
 |nil h =>
  obtain rfl:=h;exact .nil
 | @step vs w v m d _ h2 ih =>
  have:=(hL _ h2).1;exact ih.step this.1 (by dsimp only at this; omega) h2
def WI.of_wk (hL:InR L N) (hk:(N:Int)≤k) {n:Nat} {v d:Int} (h:Wk L v n u d):WI L k u v d:=by
 obtain⟨vs,_,h⟩:=h.wl;exact .of_wl hL hk h
def Wl.shorten {S:Int→Prop} {vs:List Int} {v d:Int} (h:Wl L S vs v d):∃vs' d',Wl L S vs' v d'∧(v::vs').Nodup:=by
 have h1:∀{vs:List Int} {v d:Int},Wl L S vs v d→Wl (L.map fun l=>(l.1,l.2.1,0)) S vs v 0:=fun h=>by
  induction h with
  |nil h=>exact .nil h
  | @step vs w v m d _ h2 ih =>
   have:=ih.step (v:=v) (m:=0) (dP.2 ⟨_,h2,rfl⟩);exact this
 have h2:∀{vs:List Int} {v d:Int},Wl (L.map fun l=>(l.1,l.2.1,0)) S vs v d→∃d',Wl L S vs v d':=fun h=>by
  induction h with
  |nil h=>exact⟨0,.nil h⟩
  | @step vs w v m d _ h2 ih =>
   obtain⟨d',h⟩:=ih;obtain⟨l,hl,e⟩:=dP.1 h2;obtain⟨a,b,c⟩:=l;simp only[Prod.mk.injEq] at e;obtain⟨rfl,rfl,rfl⟩:=e;exact⟨_,h.step hl⟩
 obtain⟨vs',d',g1,_,g3⟩:=(h1 h).simple (p:=fun _=>0) (fun a b m hm=>by
  obtain⟨l,_,e⟩:=List.mem_map.1 hm;simp only[Prod.mk.injEq] at e;dsimp only
  omega)
 obtain⟨d'',g4⟩:=h2 g1;exact⟨vs',d'',g4,g3⟩
def akg (L:List Lk) (k u v:Int):List Lk:=L.filter fun l=>(l.1==u||(decide (0≤l.1)&&decide (l.1<k)))&&(l.2.1==v||(decide (0≤l.2.1)&&decide (l.2.1<k)))
def tK {v:Int} {l:Lk}:l∈akg L k u v↔l∈L∧(l.1=u∨(0≤l.1∧l.1<k))∧(l.2.1=v∨(0≤l.2.1∧l.2.1<k)):=by
 unfold akg;rw[List.mem_filter];simp
def WI.rest (v:Int) {w d:Int} (h:WI L k u w d):(w=v∨(0≤w∧w<k))→∃vs,Wl (akg L k u v) (fun x=>x=u) vs w d:=by
 induction h with
 |nil=>exact fun _=>⟨[],.nil rfl⟩
 | @one w m h =>
  intro hw;have:=Wl.step (Wl.nil (L:=akg L k u v) (S:=fun x=>x=u) rfl) (tK.2 ⟨h,.inl rfl,hw⟩);rw[gI] at this;exact⟨_,this⟩
 | @step x w d m _ h0 h1 h2 ih =>
  intro hw;obtain⟨vs,h⟩:=ih (.inr ⟨h0,h1⟩);exact⟨_,h.step (tK.2 ⟨h2,.inr ⟨h0,h1⟩,hw⟩)⟩
def WI.of_rest {v:Int} {vs:List Int} {w d:Int} (h:Wl (akg L k u v) (fun x=>x=u) vs w d):v∉vs→WI L k u w d:=by
 induction h with
 |nil h =>
  obtain rfl:=h;exact fun _=>.nil
 | @step vs x w m d h1 h2 ih =>
  intro hv;obtain⟨g1,g2,g3⟩:=tK.1 h2;have ih':=ih fun h=>hv (by simp[h]);have hxv:x≠v:=fun e=>hv (by simp[e])
  cases h1 with
  |nil h =>
   obtain rfl:=h;rw[gI];exact .one g1
  |step h3 h4 =>
   obtain⟨_,_,g4⟩:=tK.1 h4;rcases g4 with g4|g4
   ·exact absurd g4 hxv
   ·exact ih'.step g4.1 g4.2 g1
def WI.high (hS:Ą L N) {v d:Int} (hu:0≤u∧u<N) (h:WI L k u v d):∃d',WI L k u v d'∧d'≤270215977642229760:=by
 have hn:=hS.n60;obtain⟨vs,hw⟩:=h.rest v (.inl rfl);obtain⟨vs',d',h1,h2⟩:=hw.shorten;have hin:InR (akg L k u v) N:=fun l hl=>hS.inr l (tK.1 hl).1;have hlen:=h1.short hin (fun w hw=>by rw[hw]; exact hu) h2;have hhi:=h1.high (M:=4503599627370496) fun l hl=>(hS.most l (tK.1 hl).1).2;refine⟨d',.of_rest h1 (fX.1 h2).1,?_⟩;omega
def akD (L:List Lk) (k:Int):List Lk:=L.filter fun l=>decide (l.1<k)&&decide (l.2.1<k)
def aaV {l:Lk}:l∈akD L k↔l∈L∧l.1<k∧l.2.1<k:=by
 unfold akD;rw[List.mem_filter];simp
def ai5 (hS:Ą L N):Ą (akD L k) N:=hS.sub (fun l hl=>(aaV.1 hl).1) (dR _ _)
def WI.of_low (hS:Ą L N) {v d:Int} {n:Nat} (h:Wk (akD L k) v n u d):WI L k u v d:=by
 obtain⟨vs,_,hw⟩:=h.wl;clear h;rename_i hlen;clear hlen
 induction hw with
 |nil h =>
  obtain rfl:=h;exact .nil
 | @step vs w v m d _ h2 ih =>
  obtain⟨g1,g2,g3⟩:=aaV.1 h2;have:=(hS.inr _ g1).1;exact ih.step this.1 g2 g1
def ap0 (hS:Ą L N) (hc:∀v d:Int,0≤v→v<N→WI L k v v d→0≤d):Ĕ (akD L k) N=true:=by
 cases ho:Ĕ (akD L k) N with
 |true=>rfl
 |false =>
  obtain⟨n,v,d,_,_,h3,h4,h5⟩:=Ja (ai5 hS) ho;have:=hc v d h3.1 h3.2 (.of_low hS h4);omega
def WI.low (hS:Ą L N) (hc:∀v d:Int,0≤v→v<N→WI L k v v d→0≤d) {v d:Int} (h:WI L k u v d) : -2314850208468434944≤d:=by
 have hn:=hS.n60;have ho:=ap0 hS hc;have hs:=ai5 (k:=k) hS;have hbd:=XT hs.links (by omega) ho;obtain⟨hp,_⟩:=apB hs ho
 let p:Int→Int:=fun v=>if 0≤v∧v<N then gv (Ī (akD L k) N) v else 0
 have hlen:(Ī (akD L k) N).length=N:=by unfold Ī; rw[Į,ú]
 have hpb:∀v,-2305843009213693952≤p v∧p v≤0:=fun v=>by
  show -2305843009213693952≤(if 0≤v∧v<N then gv (Ī (akD L k) N) v else 0)∧(if 0≤v∧v<N then gv (Ī (akD L k) N) v else 0)≤0
  split
  ·rename_i hv;exact hbd _ (dg (Xi (by omega)))
  ·omega
 have hpp:∀a b m,(a,b,m)∈akD L k→p b≤p a+m:=fun a b m hl=>by
  have hr:=hs.inr _ hl;dsimp only at hr;have:=hp a b m hl;rw[OC hr.1.1 hr.1.2,OC hr.2.1 hr.2.2] at this;show(if 0≤b∧b<N then gv (Ī (akD L k) N) b else 0)≤(if 0≤a∧a<N then gv (Ī (akD L k) N) a else 0)+m;rw[if_pos hr.1,if_pos hr.2];omega
 have key:∀{v d:Int},WI L k u v d→(v<k→p v-4503599627370496≤d)∧-2314850208468434944≤d:=fun {v d} h=>by
  induction h with
  |nil=>have:=hpb u; exact⟨fun _=>by omega,by omega⟩
  | @one v m h =>
   have:=hpb v;have:=(hS.most _ h).1;dsimp only at this;exact⟨fun _=>by omega,by omega⟩
  | @step w v d m _ h0 h1 h2 ih =>
   have hm:=(hS.most _ h2).1;dsimp only at hm;have hi:=ih.1 h1;have hw:=hpb w;refine⟨fun hv=>?_,by omega⟩;have:=hpp w v m (aaV.2 ⟨h2,h1,hv⟩);omega
 exact(key h).2
def lkF (f:Int→Int→Int) (l:Lk):Int→Int→Int:=fun a b=>if a=l.1∧b=l.2.1 then min (f l.1 l.2.1) l.2.2 else f a b
def Xu (a b:Int):Int:=if a=b then 0 else ď
def upF (f:Int→Int→Int) (k:Int):Int→Int→Int:=fun a b=>if f a k=ď then f a b else if f k b=ď then f a b else min (f a b) (f a k+f k b)
def fw (L:List Lk):Nat→Int→Int→Int
 |0=>L.foldl lkF Xu
 |k+1=>upF (fw L k) k
def Xo (a b:Int):∀(M:List Lk) (f:Int→Int→Int),(M.foldl lkF f) a b≤f a b∧(∀m,(a,b,m)∈M→(M.foldl lkF f) a b≤m)∧((M.foldl lkF f) a b=f a b∨∃m,(a,b,m)∈M∧(M.foldl lkF f) a b=m)
 |[],f=>⟨dQ _,fun _ h=>by simp at h,.inl rfl⟩
 |l::M,f=>by
  rw[fU];obtain⟨i1,i2,i3⟩:=Xo a b M (lkF f l)
  have key:lkF f l a b≤f a b∧((a=l.1∧b=l.2.1)→lkF f l a b≤l.2.2)∧(lkF f l a b=f a b∨((a=l.1∧b=l.2.1)∧lkF f l a b=l.2.2)):=by
   unfold lkF
   by_cases h:a=l.1∧b=l.2.1
   ·rw[if_pos h,h.1,h.2];refine⟨by omega,fun _=>by omega,?_⟩
    by_cases hc:f l.1 l.2.1≤l.2.2
    ·exact .inl (by omega)
    ·exact .inr ⟨⟨rfl,rfl⟩,by omega⟩
   ·rw[if_neg h];exact⟨dQ _,fun h'=>absurd h' h,.inl rfl⟩
  obtain⟨k1,k2,k3⟩:=key;refine⟨by omega,fun m hm=>?_,?_⟩
  ·rcases di.1 hm with h|h
   ·subst h;have:=k2 ⟨rfl,rfl⟩;dsimp only at this;omega
   ·exact i2 m h
  ·rcases i3 with h|⟨m,h,e⟩
   ·rcases k3 with h'|⟨⟨h1,h2⟩,h'⟩
    ·exact .inl (h.trans h')
    ·exact .inr ⟨l.2.2,by rw[h1,h2]; simp,h.trans h'⟩
   ·exact .inr ⟨m,by simp[h],e⟩
structure Tab (L:List Lk) (N:Nat) (k:Nat) (f:Int→Int→Int):Prop where
 att:∀a b:Int,0≤a→a<N→0≤b→b<N→f a b≠ď→WI L k a b (f a b)
 le:∀a b s:Int,0≤a→a<N→0≤b→b<N→WI L k a b s→f a b≤s∧f a b≠ď
 diag:∀a:Int,0≤a→a<N→f a a=0
def Tab.closed {f:Int→Int→Int} {k:Nat} (h:Tab L N k f):∀v d:Int,0≤v→v<N→WI L k v v d→0≤d:=fun v d h0 h1 hw=>by
 have:=(h.le v v d h0 h1 h0 h1 hw).1;rw[h.diag v h0 h1] at this;exact this
def Tab.bd (hS:Ą L N) {f:Int→Int→Int} {k:Nat} (h:Tab L N k f) {a b:Int} (ha:0≤a∧a<N) (hb:0≤b∧b<N) (hf:f a b≠ď) : -2314850208468434944≤f a b∧f a b≤270215977642229760:=by
 have hw:=h.att a b ha.1 ha.2 hb.1 hb.2 hf;obtain⟨d,hd,hle⟩:=hw.high hS ha;have:=(h.le a b d ha.1 ha.2 hb.1 hb.2 hd).1;exact⟨hw.low hS h.closed,by omega⟩
def apr (hS:Ą L N):Tab L N 0 (fw L 0):=by
 have key:∀a b,(fw L 0 a b≤Xu a b)∧(∀m,(a,b,m)∈L→fw L 0 a b≤m)∧(fw L 0 a b=Xu a b∨∃m,(a,b,m)∈L∧fw L 0 a b=m):=fun a b=>Xo a b L Xu;refine⟨fun a b ha ha' hb hb' hf=>?_,fun a b s ha ha' hb hb' hw=>?_,fun a ha ha'=>?_⟩
 ·rcases(key a b).2.2 with h|⟨m,h,e⟩
  ·rw[h] at hf ⊢;unfold Xu at hf ⊢
   by_cases hab:a=b
   ·subst hab; rw[if_pos rfl]; exact .nil
   ·rw[if_neg hab] at hf; exact absurd rfl hf
  ·rw[e]; exact .one h
 ·have hs:fw L 0 a b≤s∧s≤4503599627370496:=by
   cases hw with
   |nil =>
    have:=(key a a).1;unfold Xu at this;rw[if_pos rfl] at this;omega
   |one h=>exact⟨(key a b).2.1 _ h,(hS.most _ h).2⟩
   |step _ h0 h1 _=>omega
  refine⟨hs.1,fun hF=>?_⟩;rw[hF] at hs;unfold ď at hs;omega
 ·rcases(key a a).2.2 with h|⟨m,h,e⟩
  ·rw[h]; unfold Xu; rw[if_pos rfl]
  ·exact absurd rfl (hS.noloop _ h)
def aiw (hS:Ą L N) {k:Nat} (hk:k<N) {f:Int→Int→Int} (h:Tab L N k f) :
 (∀a b:Int,0≤a→a<N→0≤b→b<N→upF f k a b≠ď→WI L ((k+1:Nat):Int) a b (upF f k a b)) ∧
 (∀a b s:Int,0≤a→a<N→0≤b→b<N→WI L ((k+1:Nat):Int) a b s→upF f k a b≤s∧upF f k a b≠ď) ∧
 (∀a:Int,0≤a→a<N→upF f k a a≤0):=by
 have hk0:(0:Int)≤k∧(k:Int)<N:=by omega
 -- the element that a pass gives
 have cases3:∀a b:Int,upF f k a b=f a b∨(f a k≠ď∧f k b≠ď∧upF f k a b=f a k+f k b):=fun a b=>by
  unfold upF
  by_cases h1:f a k=ď
  ·rw[if_pos h1]; exact .inl rfl
  rw[if_neg h1]
  by_cases h2:f k b=ď
  ·rw[if_pos h2]; exact .inl rfl
  rw[if_neg h2]
  by_cases h3:f a b≤f a k+f k b
  ·exact .inl (by omega)
  ·exact .inr ⟨h1,h2,by omega⟩
 have lim:∀a b:Int,0≤a→a<N→0≤b→b<N→f a b≤ď:=fun a b h0 h1 h2 h3=>by
  by_cases hf:f a b=ď
  ·omega
  ·have:=h.bd hS ⟨h0,h1⟩ ⟨h2,h3⟩ hf; unfold ď; omega
 have upper:∀a b:Int,upF f k a b≤f a b∧(f a k≠ď→f k b≠ď→upF f k a b≤f a k+f k b):=fun a b=>by
  unfold upF
  by_cases h1:f a k=ď
  ·rw[if_pos h1]; exact⟨dQ _,fun h'=>absurd h1 h'⟩
  rw[if_neg h1]
  by_cases h2:f k b=ď
  ·rw[if_pos h2]; exact⟨dQ _,fun _ h'=>absurd h2 h'⟩
  rw[if_neg h2];exact⟨by omega,fun _ _=>by omega⟩
 have B:=fun(a b:Int) (h0:0≤a) (h1:a<N) (h2:0≤b) (h3:b<N) (hf:f a b≠ď)=>h.bd hS ⟨h0,h1⟩ ⟨h2,h3⟩ hf
 -- if there is a walk, the element is told
 have ne:∀a b:Int,0≤a→a<N→0≤b→b<N→(f a b≠ď∨(f a k≠ď∧f k b≠ď))→upF f k a b≠ď:=fun a b h0 h1 h2 h3 hc hF=>by
  have hu:=upper a b;rcases hc with hc|⟨hc1,hc2⟩
  ·have:=B a b h0 h1 h2 h3 hc;rw[hF] at hu;unfold ď at hu;omega
  ·have b1:=B a k h0 h1 hk0.1 hk0.2 hc1;have b2:=B k b hk0.1 hk0.2 h2 h3 hc2;have:=hu.2 hc1 hc2;rw[hF] at this;unfold ď at this;omega
 have colk:∀a:Int,0≤a→a<N→upF f k a k=f a k:=fun a h0 h1=>by
  have hd:=h.diag k hk0.1 hk0.2;unfold upF;rw[hd]
  split
  ·rfl
  ·rw[if_neg (by decide)]; omega
 refine⟨fun a b h0 h1 h2 h3 hf=>?_,fun a b s h0 h1 h2 h3 hw=>?_,fun a h0 h1=>?_⟩
 ·rcases cases3 a b with e|⟨e1,e2,e⟩
  ·rw[e] at hf ⊢;exact(h.att a b h0 h1 h2 h3 hf).mono (by omega)
  ·rw[e];exact((h.att a k h0 h1 hk0.1 hk0.2 e1).mono (by omega)).app ((h.att k b hk0.1 hk0.2 h2 h3 e2).mono (by omega)) hk0.1 (by omega)
 ·-- by the walk
  have main:∀{v s:Int},WI L ((k+1:Nat):Int) a v s→(0≤v∧v<N)→upF f k a v≤s∧(f a v≠ď∨(f a k≠ď∧f k v≠ď)):=fun {v s} hw=>by
   induction hw with
   |nil =>
    intro hv;have:=h.le a a 0 hv.1 hv.2 hv.1 hv.2 .nil;exact⟨by have:=(upper a a).1; omega,.inl this.2⟩
   | @one v m hl =>
    intro hv;have:=h.le a v m h0 h1 hv.1 hv.2 (.one hl);exact⟨by have:=(upper a v).1; omega,.inl this.2⟩
   | @step w v d m _ g0 g1 g2 ih =>
    intro hv;have hwr:=(hS.inr _ g2).1;dsimp only at hwr;obtain⟨i1,i2⟩:=ih hwr;have hone:=h.le w v m hwr.1 hwr.2 hv.1 hv.2 (.one g2)
    by_cases hwk:w=k
    ·subst hwk;rw[colk a h0 h1] at i1
     have hak:f a k≠ď:=by
      rcases i2 with i2|i2
      ·exact i2
      ·exact i2.1
     have:=(upper a v).2 hak hone.2;exact⟨by omega,.inr ⟨hak,hone.2⟩⟩
    ·have hlt:w<k:=by push_cast at g1; omega
     -- one link ì of a walk by nodes below k
     have ext:∀x:Int,0≤x→x<N→f x w≠ď→f x v≤f x w+m∧f x v≠ď:=fun x hx0 hx1 hf =>
      h.le x v _ hx0 hx1 hv.1 hv.2 ((h.att x w hx0 hx1 hwr.1 hwr.2 hf).step hwr.1 hlt g2)
     rcases cases3 a w with e|⟨e1,e2,e⟩
     ·have hne:f a w≠ď:=by
       rcases i2 with i2|⟨i2,i3⟩
       ·exact i2
       ·intro hF;rw[hF] at e;exact ne a w h0 h1 hwr.1 hwr.2 (.inr ⟨i2,i3⟩) e
      have:=ext a h0 h1 hne;exact⟨by have:=(upper a v).1; omega,.inl this.2⟩
     ·have:=ext k hk0.1 hk0.2 e2;have:=(upper a v).2 e1 this.2;exact⟨by omega,.inr ⟨e1,(ext k hk0.1 hk0.2 e2).2⟩⟩
  obtain⟨m1,m2⟩:=main hw ⟨h2,h3⟩;exact⟨m1,ne a b h0 h1 h2 h3 m2⟩
 ·have:=(upper a a).1;have:=h.diag a h0 h1;omega
def wi_pot {p:Int→Int} (hp:Pot L p) {v d:Int} (h:WI L k u v d):p v≤p u+d:=by
 induction h with
 |nil=>omega
 |one h=>exact hp _ _ _ h
 |step _ _ _ h2 ih=>have:=hp _ _ _ h2; omega
def fw_all (hS:Ą L N):(∃k:Nat,k<N∧Tab L N k (fw L k)∧(∃a:Int,0≤a∧a<N∧fw L (k+1) a a<0)∧∀j,j≤k→Tab L N j (fw L j))∨∀k:Nat,k≤N→Tab L N k (fw L k):=by
 have:∀k:Nat,k≤N→(∃j:Nat,j<k∧Tab L N j (fw L j)∧(∃a:Int,0≤a∧a<N∧fw L (j+1) a a<0)∧∀i,i≤j→Tab L N i (fw L i))∨∀i,i≤k→Tab L N i (fw L i):=by
  intro k
  induction k with
  |zero=>exact fun _=>.inr fun i hi=>by have h0:i=0:=(by omega); subst h0; exact apr hS
  |succ k ih =>
   intro hk;rcases ih (by omega) with⟨j,h1,h2⟩|h
   ·exact .inl ⟨j,by omega,h2⟩
   ·have hT:=h k (cY _);obtain⟨s1,s2,s3⟩:=aiw hS (by omega) hT
    by_cases hb:∃a:Int,0≤a∧a<N∧fw L (k+1) a a<0
    ·exact .inl ⟨k,by omega,hT,hb,h⟩
    ·refine .inr fun i hi=>?_;rcases Nat.lt_or_eq_of_le hi with hi|rfl
     ·exact h i (by omega)
     ·refine⟨s1,s2,fun a h0 h1=>?_⟩;have:=s3 a h0 h1;rcases gM (fw L (k+1) a a) 0 with q|q
      ·exact absurd ⟨a,h0,h1,q⟩ hb
      ·have e:fw L (k+1) a a=upF (fw L k) k a a:=rfl;omega
 rcases this N (cY _) with⟨j,h1,h2⟩|h
 ·exact .inl ⟨j,h1,h2⟩
 ·exact .inr h
def aqe (hS:Ą L N) {j:Nat} (hj:j<N) (hT:Tab L N j (fw L j)) (hb:∃a:Int,0≤a∧a<N∧fw L (j+1) a a<0):Ĕ L N=false:=by
 have hn:=hS.n60;obtain⟨a,h0,h1,h2⟩:=hb;rw[Bool.eq_false_iff];intro ho;obtain⟨p,hp⟩:=(ō hS.links (by omega)).1 ho;obtain⟨s1,_,_⟩:=aiw hS hj hT;have e:fw L (j+1) a a=upF (fw L j) j a a:=rfl;rw[e] at h2;have:=wi_pot hp (s1 a a h0 h1 h0 h1 (by unfold ď; omega));omega
def anj (hS:Ą L N) (hT:Tab L N N (fw L N)):Ĕ L N=true:=by
 cases ho:Ĕ L N with
 |true=>rfl
 |false =>
  obtain⟨n,v,d,_,_,h3,h4,h5⟩:=Ja hS ho;have:=hT.closed v d h3.1 h3.2 (.of_wk hS.inr (dQ _) h4);omega
def fw_dst (hS:Ą L N) (ht:BX L N) (hT:Tab L N N (fw L N)) {a b:Int} (ha:0≤a∧a<N) (hb:0≤b∧b<N):fw L N a b=dst L N a b:=by
 have ho:=anj hS hT;obtain⟨vs,hw⟩:=aqm hS ht ho ha hb;obtain⟨h1,h2⟩:=hT.le a b _ ha.1 ha.2 hb.1 hb.2 (.of_wl hS.inr (dQ _) hw);obtain⟨vs',hw'⟩:=(hT.att a b ha.1 ha.2 hb.1 hb.2 h2).wl;have:=ass hS ho ha hw';omega
end
section
variable {ρ:Type} {L:List Lk} {N:Nat}
def apq (hN:N≤60) {u:Int} (hu:0≤u∧u<N) (K:List Int→Option ρ) :
 Í (fun(v7:Int×List Int) kk10=>lW (N:Int) u v7.1 v7.2 (fun u8 u9=>kk10 (u8,u9)) K) ((0:Int),List.replicate N (0:Int))=K (TB N (Xu u)):=by
 refine ë (List.replicate N ()) (fun i=>TB N fun b=>if b<i then Xu u b else 0) _ ?_ (fun i a hi ha kn=>?_) (fun kn=>?_)
 ·unfold TB;refine List.ext_getElem? fun j=>?_;rw[List.getElem?_map,List.getElem?_replicate]
  by_cases hj:j<N
  ·rw[fq hj,if_pos hj];simp only[d9];rw[if_neg (by omega)]
  ·rw[fW (by simpa using hj),if_neg hj];rfl
 ·try dsimp only
  unfold lW;rw[List.length_replicate] at hi;have e0:ď=(1152921504606846976:Int):=rfl;rw[Ñ (decide_eq_true (by omega)),kz,ă (by omega) (by omega),jH _ (by omega) (by omega),agn _ (by omega)]
  by_cases h:u=(i:Int)
  ·rw[Ñ (beq_iff_eq.2 h),kz,ă (by omega) (by omega),jH _ (by omega) (by omega),Ò (by omega) (by omega),agn _ (by omega)];congr 1;refine X0 fun v h0 h1=>?_
   by_cases hv:v=(i:Int)
   ·rw[if_pos hv,if_pos (by push_cast; omega)]; unfold Xu; rw[if_pos (by omega)]
   ·rw[if_neg hv,if_neg hv]
    by_cases h2:v<(i:Int)
    ·rw[if_pos h2,if_pos (by push_cast; omega)]
    ·rw[if_neg h2,if_neg (by push_cast; omega)]
  ·rw[Î (beq_eq_false_iff_ne.2 h),Ò (by omega) (by omega)];congr 1;refine X0 fun v h0 h1=>?_
   by_cases hv:v=(i:Int)
   ·rw[if_pos hv,if_pos (by push_cast; omega)]; unfold Xu; rw[if_neg (by omega),e0]
   ·rw[if_neg hv]
    by_cases h2:v<(i:Int)
    ·rw[if_pos h2,if_pos (by push_cast; omega)]
    ·rw[if_neg h2,if_neg (by push_cast; omega)]
 ·try dsimp only
  unfold lW;rw[List.length_replicate,Î (decide_eq_false (by omega))];congr 1;exact X0 fun v h0 h1=>if_pos h1
def XP (hN:N≤60) (K:List (List Int)→Option ρ) :
 Í (fun(v74:Int×List (List Int)) kk77=>iK (N:Int) v74.1 v74.2 (fun u75 u76=>kk77 (u75,u76)) K) ((0:Int),[])=K (sI N Xu):=by
 refine ë (List.replicate N ()) (fun i=>(List.range i).map fun(u:Nat)=>TB N (Xu u)) _ rfl (fun i a hi ha kn=>?_) (fun kn=>?_)
 ·try dsimp only
  unfold iK;rw[List.length_replicate] at hi;rw[Ñ (decide_eq_true (by omega)),ğ (by simp[ã]; omega),Int.toNat_natCast];refine(apq hN ⟨by omega,by omega⟩ _).trans ?_;rw[ğ (Ó (by simp only[List.length_map,List.length_range,List.length_singleton]; omega)),Ò (by omega) (by omega)];congr 2;rw[List.range_succ,List.map_append];rfl
 ·try dsimp only
  unfold iK;rw[List.length_replicate,Î (decide_eq_false (by omega))];rfl
def apo (hS:Ą L N) (K:List (List Int)→Option ρ) :
 Í (fun(v70:Int×List (List Int)) kk73=>lV L v70.1 v70.2 (fun u71 u72=>kk73 (u71,u72)) K) ((0:Int),sI N Xu)=K (sI N (fw L 0)):=by
 have hl3:=hS.len;refine ë L (fun i=>sI N ((L.take i).foldl lkF Xu)) _ rfl (fun i l hi hl kn=>?_) (fun kn=>?_)
 ·try dsimp only
  unfold lV;have hr:=hS.inr l (List.mem_of_getElem? hl);obtain⟨⟨a0,a1⟩,b0,b1⟩:=hr;rw[Ð hi,Ç hl];simp only[oO,ă a0 a1,jj _ a0 a1,kz,ă b0 b1,jH _ b0 b1];rw[Ë hi (by omega),XV _ a0 b0,take_succ hl,List.foldl_append];congr 2;refine jq fun u v _ _ _ _=>?_;simp only[List.foldl_cons,List.foldl_nil,lkF,wF]
 ·try dsimp only
  unfold lV;rw[Ù,List.take_length];rfl
def apn (hS:Ą L N) {k:Nat} (hk:k<N) {f:Int→Int→Int} (hT:Tab L N k f) {u:Int} (hu:0≤u∧u<N) (hne:f u k≠ď) {g:Int→Int→Int} (hgk:∀b:Int,0≤b→b<N→g k b=f k b) (hgu:∀b:Int,0≤b→b<N→g u b=f u b) (K:List (List Int)→Option ρ) :
 Í (fun(v45:Int×List (List Int)) kk48=>lT (k:Int) u (N:Int) v45.1 v45.2 (fun u46 u47=>kk48 (u46,u47)) K) ((0:Int),sI N g)=K (sI N fun a b=>if a=u then upF f k a b else g a b):=by
 have hn:=hS.n60
 have hk0:(0:Int)≤k∧(k:Int)<N:=by omega
 have hdk:=hT.diag k hk0.1 hk0.2;have e0:ď=(1152921504606846976:Int):=rfl
 have rowk:∀b:Int,upF f k k b=f k b:=fun b=>by
  unfold upF;rw[hdk];rw[if_neg (by decide)]
  split
  ·rfl
  ·omega
 have colk:upF f k u k=f u k:=by
  unfold upF;rw[if_neg hne,hdk,if_neg (by decide)];omega
 refine ë (List.replicate N ()) (fun i=>sI N fun a b=>if a=u∧b<i then upF f k a b else g a b) _ ?_ (fun i a hi ha kn=>?_) (fun kn=>?_)
 ·exact jq fun a b _ _ hb _=>if_neg (by omega)
 ·try dsimp only
  unfold lT;rw[List.length_replicate] at hi
  have hi0:(0:Int)≤i∧(i:Int)<N:=by omega
  -- what lies in row k, and in row u at k
  have r1:(if (k:Int)=u∧(i:Int)<i then upF f k k i else g k i)=f k i:=by rw[if_neg (by omega)]; exact hgk i hi0.1 hi0.2
  have r2:(if u=u∧(i:Int)<i then upF f k u i else g u i)=f u i:=by rw[if_neg (by omega)]; exact hgu i hi0.1 hi0.2
  have r3:(if u=u∧(k:Int)<i then upF f k u k else g u k)=f u k:=by
   split
   ·exact colk
   ·exact hgu k hk0.1 hk0.2
  have step:∀x:Int,(fun(a b:Int)=>if a=u∧b=(i:Int) then x else if a=u∧b<(i:Int) then upF f k a b else g a b)=fun a b=>if a=u∧b<((i+1:Nat):Int) then(if b=(i:Int) then x else upF f k a b) else g a b:=fun x=>by
   funext a b
   by_cases h1:a=u
   ·by_cases h2:b=(i:Int)
    ·rw[if_pos ⟨h1,h2⟩,if_pos ⟨h1,by push_cast; omega⟩,if_pos h2]
    ·by_cases h3:b<(i:Int)
     ·rw[if_neg (fun h=>h2 h.2),if_pos ⟨h1,h3⟩,if_pos ⟨h1,by push_cast; omega⟩,if_neg h2]
     ·rw[if_neg (fun h=>h2 h.2),if_neg (fun h=>h3 h.2),if_neg (fun h=>by have:=h.2; push_cast at this; omega)]
   ·rw[if_neg (fun h=>h1 h.1),if_neg (fun h=>h1 h.1),if_neg (fun h=>h1 h.1)]
  rw[Ñ (decide_eq_true hi0.2)];simp only[-eq_self,oO,ă hk0.1 hk0.2,jj _ hk0.1 hk0.2,kz,ă hi0.1 hi0.2,jH _ hi0.1 hi0.2,r1]
  by_cases h2:f k i=ď
  ·rw[Î (by rw[h2]; rfl),Ò (by omega) (by omega)];congr 2;refine jq fun a b ha _ hb _=>?_
   by_cases h3:a=u∧b<(i:Int)
   ·rw[if_pos h3,if_pos ⟨h3.1,by push_cast; omega⟩]
   ·rw[if_neg h3]
    by_cases h4:a=u∧b=(i:Int)
    ·rw[if_pos ⟨h4.1,by push_cast; omega⟩,h4.1,h4.2];unfold upF;rw[if_neg hne,if_pos h2];exact hgu i hi0.1 hi0.2
    ·rw[if_neg (fun h=>by have:=h.2; push_cast at this; omega)]
  ·have b1:=hT.bd hS hu hk0 hne;have b2:=hT.bd hS hk0 hi0 h2;rw[Ñ (bne_iff_ne.2 h2)];simp only[-eq_self,oO,ă hu.1 hu.2,jj _ hu.1 hu.2,kz,ă hi0.1 hi0.2,jH _ hi0.1 hi0.2,ă hk0.1 hk0.2,jH _ hk0.1 hk0.2,jj _ hk0.1 hk0.2,r1,r2,r3];rw[Ò (by omega) (by omega)]
   try simp only[-eq_self,oO,ă hu.1 hu.2,jj _ hu.1 hu.2,kz,ă hi0.1 hi0.2,jH _ hi0.1 hi0.2]
   rw[Ò (by omega) (by omega),XV _ hu.1 hi0.1,step];congr 2;refine jq fun a b ha _ hb _=>?_
   by_cases h3:a=u∧b<((i+1:Nat):Int)
   ·rw[if_pos h3,if_pos h3]
    by_cases h4:b=(i:Int)
    ·rw[if_pos h4,h3.1,h4,wF];unfold upF;rw[if_neg hne,if_neg h2]
    ·rw[if_neg h4]
   ·rw[if_neg h3,if_neg h3]
 ·try dsimp only
  unfold lT;rw[List.length_replicate,Î (decide_eq_false (by omega))];congr 1;refine jq fun a b _ _ _ hb=>?_
  by_cases h:a=u
  ·rw[if_pos ⟨h,hb⟩,if_pos h]
  ·rw[if_neg (fun q=>h q.1),if_neg h]
def aiv (hS:Ą L N) {k:Nat} (hk:k<N) {f:Int→Int→Int} (hT:Tab L N k f) (K:List (List Int)→Option ρ) :
 Í (fun(v60:Int×List (List Int)) kk63=>lU (k:Int) (N:Int) v60.1 v60.2 (fun u61 u62=>kk63 (u61,u62)) K) ((0:Int),sI N f)=K (sI N (upF f k)):=by
 have hn:=hS.n60
 have hk0:(0:Int)≤k∧(k:Int)<N:=by omega
 have hdk:=hT.diag k hk0.1 hk0.2
 have rowk:∀b:Int,upF f k k b=f k b:=fun b=>by
  unfold upF;rw[hdk];rw[if_neg (by decide)]
  split
  ·rfl
  ·omega
 refine ë (List.replicate N ()) (fun i=>sI N fun a b=>if a<i then upF f k a b else f a b) _ ?_ (fun i a hi ha kn=>?_) (fun kn=>?_)
 ·exact jq fun a b ha _ _ _=>if_neg (by omega)
 ·try dsimp only
  unfold lU;rw[List.length_replicate] at hi
  have hi0:(0:Int)≤i∧(i:Int)<N:=by omega
  have r1:(if (i:Int)<i then upF f k i k else f i k)=f i k:=if_neg (by omega);rw[Ñ (decide_eq_true hi0.2)];simp only[oO,ă hi0.1 hi0.2,jj _ hi0.1 hi0.2,kz,ă hk0.1 hk0.2,jH _ hk0.1 hk0.2,r1]
  by_cases h1:f i k=ď
  ·rw[Ñ (beq_iff_eq.2 h1),Ò (by omega) (by omega)];congr 2;refine jq fun a b ha _ hb _=>?_
   by_cases h2:a<(i:Int)
   ·rw[if_pos h2,if_pos (by push_cast; omega)]
   ·rw[if_neg h2]
    by_cases h3:a=(i:Int)
    ·rw[if_pos (by push_cast; omega),h3];unfold upF;rw[if_pos h1]
    ·rw[if_neg (by push_cast; omega)]
  ·rw[Î (beq_eq_false_iff_ne.2 h1)];refine(apn hS hk hT hi0 h1 (fun b _ _=>?_) (fun b _ _=>if_neg (by omega)) _).trans ?_
   ·split
    ·exact rowk b
    ·rfl
   ·rw[Ò (by omega) (by omega)];congr 2;refine jq fun a b ha _ hb _=>?_
    by_cases h3:a=(i:Int)
    ·rw[if_pos h3,if_pos (by push_cast; omega)]
    ·rw[if_neg h3]
     by_cases h2:a<(i:Int)
     ·rw[if_pos h2,if_pos (by push_cast; omega)]
     ·rw[if_neg h2,if_neg (by push_cast; omega)]
 ·try dsimp only
  unfold lU;rw[List.length_replicate,Î (decide_eq_false (by omega))];congr 1;exact jq fun a b _ ha _ _=>if_pos ha
def apm (hN:N≤60) (f:Int→Int→Int) (X Y:Option ρ) :
 Í (fun(v57:Int) kk59=>iJ (N:Int) (sI N f) v57 (fun u58=>kk59 u58) (fun _=>X) (fun _=>Y)) (0:Int)=if ((List.range N).any fun(a:Nat)=>decide (f a a<0)) then X else Y:=by
 refine Ģ (List.range N) (fun a=>decide (f a a<0)) (fun _=>X) X Y (fun _=>rfl) (fun i a hi ha kn=>?_) (fun kn=>?_)
 ·try dsimp only
  unfold iJ;rw[List.length_range] at hi
  have hia:a=i:=by rw[fq hi] at ha; exact(Option.some.inj ha).symm
  subst hia
  have hi0:(0:Int)≤a∧(a:Int)<N:=by omega
  rw[Ñ (decide_eq_true hi0.2)];simp only[oO,ă hi0.1 hi0.2,jj _ hi0.1 hi0.2,kz,jH _ hi0.1 hi0.2];rw[Ò (by omega) (by omega),Č]
 ·try dsimp only
  unfold iJ;rw[List.length_range,Î (decide_eq_false (by omega))]
def ajU (hS:Ą L N) (ht:BX L N):pH ((N:Int),L)=some (if Ĕ L N then(sI N (dst L N),true) else([],false)):=by
 have hn:=hS.n60;unfold pH Jz;dsimp only;refine(XP hn _).trans ?_;refine(apo hS _).trans ?_
 have anyOf:∀k:Nat,((List.range N).any fun(a:Nat)=>decide (fw L k a a<0))=true↔∃a:Int,0≤a∧a<N∧fw L k a a<0:=fun k=>by
  rw[dZ];constructor
  ·rintro⟨a,h1,h2⟩;have:=List.mem_range.1 h1;exact⟨a,by omega,by omega,of_decide_eq_true h2⟩
  ·rintro⟨a,h0,h1,h2⟩;exact⟨a.toNat,List.mem_range.2 (by omega),decide_eq_true (by rw[show((a.toNat:Nat):Int)=a by omega]; exact h2)⟩
 rcases fw_all hS with⟨j,hj,hT,hb,hall⟩|hall
 ·rw[aqe hS hj hT hb,if_neg (by simp)];refine ġ (fun v=>∃k:Nat,k≤j∧v=((k:Int),sI N (fw L k))∧Tab L N k (fw L k)) (fun v=>N-v.1.toNat) ?_ ⟨0,by omega,rfl,hall 0 (by omega)⟩;rintro v ⟨k,hkj,rfl,hTk⟩;dsimp only
  have hL6:∀kn:Int×List (List Int)→Option (List (List Int)×Bool),jM (N:Int) (k:Int) (sI N (fw L k)) (fun u67 u68=>kn (u67,u68)) (fun z64=>some (([]:List (List Int)),z64.1)) (fun z65=>some (z65,true))=if ((List.range N).any fun(a:Nat)=>decide (fw L (k+1) a a<0)) then some ([],false) else kn ((k:Int)+1,sI N (fw L (k+1))):=fun kn=>by
   unfold jM;rw[Ñ (decide_eq_true (by omega))];refine(aiv hS (by omega) hTk _).trans ?_;have:=apm hn (upF (fw L k) k) (some (([]:List (List Int)),false)) (ck ((k:Int)+1) fun n56=>kn (n56,sI N (upF (fw L k) k)));rw[Ò (by omega) (by omega)] at this;refine Eq.trans ?_ this;rw[Ò (by omega) (by omega)];congr 1
  rcases Nat.lt_or_eq_of_le hkj with hlt|rfl
  ·refine .inr ⟨(((k+1:Nat):Int),sI N (fw L (k+1))),⟨k+1,hlt,rfl,hall (k+1) hlt⟩,by dsimp only; omega,fun kn=>?_⟩;have hd:=hall (k+1) hlt;rw[hL6 kn,if_neg]
   ·push_cast; rfl
   ·intro h;obtain⟨a,h0,h1,h2⟩:=(anyOf (k+1)).1 h;rw[hd.diag a h0 h1] at h2;omega
  ·refine .inl fun kn=>?_;rw[hL6 kn,if_pos ((anyOf (k+1)).2 hb)]
 ·have hT:=hall N (Nat.le_refl _);rw[anj hS hT,if_pos rfl];refine ġ (fun v=>∃k:Nat,k≤N∧v=((k:Int),sI N (fw L k))) (fun v=>N-v.1.toNat) ?_ ⟨0,by omega,rfl⟩;rintro v ⟨k,hkj,rfl⟩;dsimp only;rcases Nat.lt_or_eq_of_le hkj with hlt|rfl
  ·have hd:=hall (k+1) hlt;refine .inr ⟨(((k+1:Nat):Int),sI N (fw L (k+1))),⟨k+1,hlt,rfl⟩,by dsimp only; omega,fun kn=>?_⟩;unfold jM;rw[Ñ (decide_eq_true (by omega))];refine(aiv hS hlt (hall k hkj) _).trans ?_;refine ġ (fun v=>∃a:Nat,a≤N∧v=(a:Int)) (fun v=>N-v.toNat) ?_ ⟨0,by omega,rfl⟩;rintro v ⟨a,ha,rfl⟩;rcases Nat.lt_or_eq_of_le ha with hl|rfl
   ·have ha0:(0:Int)≤a∧(a:Int)<N:=by omega
    refine .inr ⟨((a+1:Nat):Int),⟨a+1,hl,rfl⟩,by omega,fun kn'=>?_⟩;unfold iJ;have hda:upF (fw L k) k a a=0:=hd.diag a ha0.1 ha0.2;rw[Ñ (decide_eq_true ha0.2)];simp only[oO,ă ha0.1 ha0.2,jj _ ha0.1 ha0.2,kz,jH _ ha0.1 ha0.2,hda];rw[Î (by rfl),Ò (by omega) (by omega)];push_cast;rfl
   ·refine .inl fun kn'=>?_;unfold iJ;rw[Î (decide_eq_false (by omega)),Ò (by omega) (by omega)];push_cast;rfl
  ·refine .inl fun kn=>?_;unfold jM;rw[Î (decide_eq_false (by omega))];refine congrArg _ (congrArg (·,true) ?_);exact jq fun a b h0 h1 h2 h3=>fw_dst hS ht hT ⟨h0,h1⟩ ⟨h2,h3⟩
end
theorem qv (id f t:Int):∀l:List IG,ÿ id f t l=ÿ id f t (l.filter fun x=>x.1==id)
 |[]=>rfl
 |x::l=>by
  have ih:=qv id f t l
  by_cases h:x.1=id
  ·rw[List.filter_cons_of_pos (by simp[h])];simp only[ÿ,ih]
  ·rw[List.filter_cons_of_neg (by simp[h]),←ih];simp only[ÿ,h,false_and,if_false,gI]
theorem aaW {id f t:Int} {x y:List IG} (h:x.Perm y):ÿ id f t x=ÿ id f t y:=by
 induction h with
 |nil=>rfl
 |cons a _ ih=>simp only[ÿ,ih]
 |swap a b l=>simp only[ÿ]; omega
 |trans _ _ h1 h2=>rw[h1,h2]
theorem RW {b:Þ} (h:Ċ b) (id:Int):(b.2.2.2.1.filter fun x=>x.1==id).Nodup:=by
 have hp:b.2.2.2.1.Pairwise fun x y=>x≠y:=by
  rw[List.pairwise_iff_getElem];intro i j hi hj hij e;have hl:=h.loans j _ (List.getElem?_eq_getElem hj);have hz:=(A2 h (List.getElem_mem hj)).1;unfold HA at hl
  split at hl
  ·omega
  split at hl
  ·omega
  split at hl
  ·rename_i h3;simp only[bne_iff_ne,ne_eq] at h3;exact h3 hl
  split at hl
  ·omega
  rename_i h4
  have:=eo.1 (ee.2 h4) b.2.2.2.1[i] (by
   rw[dl]
   exact⟨i,by rw[dm]; omega,by rw[fm]⟩)
  rw[e] at this;simp at this;omega
 exact(hp.filter _)
section
variable {s b:Þ} (hs:Ċ s) (hb:Ċ b) (hp:E7 s b=true)
include hs hb hp
theorem I0:(∀c∈s.2.2.2.2.1,c∈b.2.2.2.2.1)∧s.1=b.1∧(∀g∈s.2.1,g∈b.2.1)∧(∀u∈s.2.2.1,u.1∈oJ s→u∈b.2.2.1)∧(∀u∈b.2.2.1,u.1∈oJ s→u∈s.2.2.1)∧(∀u∈s.2.2.2.1,u.1∈oJ s→u∈b.2.2.2.1)∧(∀u∈b.2.2.2.1,u.1∈oJ s→u∈s.2.2.2.1):=by
 unfold E7 Ν at hp;simp only[Bool.and_eq_true,List.all_eq_true,Bool.or_eq_true,Bool.not_eq_true',decide_eq_true_eq,N2,Bool.not_true,Bool.false_eq_true,false_or] at hp;obtain⟨h1,h2,h3,h4,h5,h6,h7⟩:=hp
 have q:∀{x:Int},x∈oJ s→¬(oJ s).contains x=false:=fun hx e=>by simp[hx] at e
 exact⟨h1,h2,h3,fun u hu hm=>(h4 u hu).resolve_left (q hm),fun u hu hm=>(h5 u hu).resolve_left (q hm),fun u hu hm=>(h6 u hu).resolve_left (q hm),fun u hu hm=>(h7 u hu).resolve_left (q hm)⟩
theorem amk {g:é} (hg:g∈s.2.1) (f t:Int):ii s g f t=ii b g f t:=by
 obtain⟨_,_,h3,h4,h5,h6,h7⟩:=I0 hs hb hp;have hid:g.1∈oJ s:=List.mem_map.2 ⟨g,hg,rfl⟩;unfold ii
 have e1:ÿ g.1 f t s.2.2.2.1=ÿ g.1 f t b.2.2.2.1:=by
  rw[qv,qv g.1 f t b.2.2.2.1];refine aaW ((List.perm_ext_iff_of_nodup (RW hs g.1) (RW hb g.1)).2 fun l=>?_);simp only[d8,beq_iff_eq];exact⟨fun⟨a,e⟩=>⟨h6 l a (by rw[e]; exact hid),e⟩,fun⟨a,e⟩=>⟨h7 l a (by rw[e]; exact hid),e⟩⟩
 have e2:XW (Τ s g.1 f t)=XW (Τ b g.1 f t):=by
  refine abC (vl _) (vl _) fun d=>?_;rw[qW,qW];unfold Τ;simp only[List.mem_map,List.mem_filter,Bool.and_eq_true,beq_iff_eq];exact⟨fun⟨u,⟨a,e,q⟩,r⟩=>⟨u,⟨h4 u a (by rw[e]; exact hid),e,q⟩,r⟩,fun⟨u,⟨a,e,q⟩,r⟩=>⟨u,⟨h5 u a (by rw[e]; exact hid),e,q⟩,r⟩⟩
 rw[e1,e2]
theorem akl {g:é} (hg:g∈s.2.1):ł b g.1=ł s g.1:=by
 obtain⟨_,_,h3,_⟩:=I0 hs hb hp;rw[ű hb.ids (h3 g hg),ű hs.ids hg]
theorem acw {c:Cmp} (hc:c∈s.2.2.2.2.1) {p:List Int} (hpl:∀x∈p,x∈c.2.2.1++c.2.2.2.1):ye (Ť s) p=ye (Ť b) p:=by
 unfold ye
 cases p with
 |nil=>rfl
 |cons x t =>
  obtain⟨⟨g,hg,_⟩,_⟩:=hs.pile hc (hpl x (by simp));obtain⟨hm,e⟩:=iD hg;dsimp only;rw[hZ hs.ids,hZ hb.ids,←e,akl hs hb hp hm]
theorem amj {c:Cmp} (hc:c∈s.2.2.2.2.1):Ū s c=Ū b c:=by
 obtain⟨_,hf,_⟩:=I0 hs hb hp
 have e1:Ĭ s c=Ĭ b c:=by
  unfold Ĭ rateK;rw[acw hs hb hp hc (fun x hx=>List.mem_append.2 (.inl (i5.1 hx).1)),acw hs hb hp hc (fun x hx=>List.mem_append.2 (.inr (i5.1 hx).1))]
 have e2:i6 s c=i6 b c:=by
  unfold i6;rw[hf]
 unfold Ū;rw[e1,e2]
end
section
variable {b:Þ} {ids:List Int}
def Ċ.distinct (h:Ċ b):b.2.2.2.2.1.Pairwise fun a c=>a.1≠c.1:=by
 rw[List.pairwise_iff_getElem];intro i j hi hj hij he;have hz:=h.compares j _ (List.getElem?_eq_getElem hj);unfold mj at hz
 have hany:(b.2.2.2.2.1.take j).any (fun x=>x.1==b.2.2.2.2.1[j].1)=true:=by
  rw[dZ];exact⟨b.2.2.2.2.1[i],dl.2 ⟨i,by rw[dm]; omega,by rw[fm]⟩,by simp[he]⟩
 rw[hany] at hz
 (repeat' split at hz)<;>first|omega|simp_all
def ans {α β:Type} (f g:α→List β):∀l:List α,(∀a∈l,(f a).length≤(g a).length)→(l.flatMap f).length≤(l.flatMap g).length
 |[],_=>cY _
 |a::l,h=>by
  rw[dM,dM,dc,dc];have:=h a (by simp);have:=ans f g l fun c hc=>h c (by simp[hc]);omega
def lt_len:∀{x y:List Int},x.Pairwise (·<·)→(∀a∈x,a∈y)→x.length≤y.length:=by
 intro x y hx h;exact(List.Nodup.length_le_of_subset (hx.imp fun h=>by omega) h)
end
structure SubB (s b:Þ):Prop where
 film:s.1=b.1
 gauges:s.2.1.Sublist b.2.1
 uses:s.2.2.1.Sublist b.2.2.1
 usesId:∀u∈s.2.2.1,u.1∈oJ s
 usesAll:∀u∈b.2.2.1,u.1∈oJ s→u∈s.2.2.1
 loans:s.2.2.2.1.Sublist b.2.2.2.1
 loansId:∀l∈s.2.2.2.1,l.1∈oJ s
 loansAll:∀l∈b.2.2.2.1,l.1∈oJ s→l∈s.2.2.2.1
 cmps:s.2.2.2.2.1.Sublist b.2.2.2.2.1
 cmpsId:∀c∈s.2.2.2.2.1,∀x∈c.2.2.1++c.2.2.2.1,x∈oJ s
 looks:∀n∈s.2.2.2.2.2,af0 b n∧n.1∈oJ s
 nK:s.2.2.2.2.2.length≤10
theorem aqf {α β:Type} (f:α→List β) {l m:List α} (h:l.Sublist m):(l.flatMap f).length≤(m.flatMap f).length:=by
 induction h with
 |slnil=>exact cY _
 |cons a _ ih=>rw[dM,dc]; omega
 |cons_cons a _ ih=>rw[dM,dM,dc,dc]; omega
def MeetL (x l:IG):Prop:=x.1=l.1∧x.2.1.1≤l.2.1.2∧l.2.1.1≤x.2.1.2
theorem Ċ.apartL {b:Þ} (h:Ċ b):b.2.2.2.1.Pairwise fun x l=>¬MeetL x l:=by
 rw[dI];rintro i j hi hj hij ⟨e1,e2,e3⟩;have hz:=h.loans j _ (cX hj)
 have hany:(b.2.2.2.1.take j).any (fun x=>x.1==b.2.2.2.1[j].1&&(decide (x.2.1.1≤b.2.2.2.1[j].2.1.2)&&decide (b.2.2.2.1[j].2.1.1≤x.2.1.2)))=true:=by
  rw[dZ];exact⟨b.2.2.2.1[i],dl.2 ⟨i,by rw[dm]; omega,by rw[fm]⟩,by simp[e1,e2,e3]⟩
 unfold HA at hz;rw[hany] at hz
 (repeat' split at hz)<;>first|omega|simp_all
section
variable {s b:Þ} (h:SubB s b) (hb:Ċ b)
include h hb
theorem agh:s.2.1.Pairwise fun a b=>a.1<b.1:=hb.ids.sublist h.gauges
theorem alZ {id:Int} (hid:id∈oJ s):ł s id=ł b id:=by
 obtain⟨g,hg,rfl⟩:=dP.1 hid;rw[ű (agh h hb) hg,ű hb.ids (h.gauges.subset hg)]
theorem NS {id:Int} (hid:id∈oJ s) (d:Int):jt (Ť s) id d=jt (Ť b) id d:=by
 unfold jt;rw[hZ (agh h hb),hZ hb.ids,alZ h hb hid]
theorem alX {id d:Int} (hid:id∈oJ s):af8 (Ť s) id d=af8 (Ť b) id d:=by
 unfold af8;rw[NS h hb hid]
theorem apw {g:é} (hg:g∈s.2.1):∀d∈ß s g,d∈ß b g:=by
 intro d hd;rcases iw.1 hd with e|⟨c,hc,h1,h2⟩|⟨n,hn,e,e2⟩
 ·exact iw.2 (.inl e)
 ·exact iw.2 (.inr (.inl ⟨c,h.cmps.subset hc,h1,h2⟩))
 ·obtain⟨⟨g',hg',e',hd'⟩,_⟩:=h.looks n hn;rw[akK hb (h.gauges.subset hg) hg' (by omega),←e2];exact hd'
theorem alY:(Ì s).length≤(Ì b).length:=by
 have h1:(Ì s).length≤(s.2.1.flatMap fun g=>(ß b g).map fun d=>((g.1,d):Int×Int)).length:=ans _ _ _ fun g hg=>by
  rw[dY,dY];exact lt_len (tx _ g) (apw h hb hg)
 exact dG h1 (aqf _ h.gauges)
theorem apx {id d:Int} (ha:j5 b id d=none):j5 s id d=none:=by
 unfold j5 at ha ⊢;rw[List.find?_eq_none] at ha ⊢;exact fun l hl=>ha l (h.loans.subset hl)
theorem apv:Ċ s:=by
 have n1:=h.gauges.length_le; have n2:=h.uses.length_le; have n3:=h.loans.length_le; have n4:=h.cmps.length_le;have m1:=hb.nG; have m2:=hb.nU; have m3:=hb.nL; have m4:=hb.nC;have hn:=alY h hb;have hN:=hb.nodes; have hL:=hb.links;refine⟨by rw[h.film]; exact hb.film,by omega,by omega,by omega,by omega,h.nK,fun g hg=>hb.gauge g (h.gauges.subset hg),agh h hb,fun u hu=>?_,fun i l hl=>?_,fun i c hc=>?_,fun n hn'=>?_,by omega,by omega⟩
 ·rw[alX h hb (h.usesId u hu)];exact hb.uses u (h.uses.subset hu)
 ·have hlm:=List.mem_of_getElem? hl;obtain⟨j,hj,hjl⟩:=List.mem_iff_getElem.1 (h.loans.subset hlm);have hz:=hb.loans j l (by rw[List.getElem?_eq_getElem hj,hjl]);unfold HA at hz ⊢;rw[NS h hb (h.loansId l hlm)]
  split at hz
  ·omega
  rename_i q1
  split at hz
  ·omega
  rename_i q2
  split at hz
  ·rename_i q3; simp only[bne_iff_ne,ne_eq] at q3; exact absurd hz q3
  rename_i q3
  split at hz
  ·omega
  split at hz
  ·omega
  rename_i q5;rw[if_neg q1,if_neg q2,if_neg q3,if_neg ?_,if_neg ?_]
  ·intro hany;obtain⟨u,hu,he⟩:=dZ.1 hany;exact q5 (dZ.2 ⟨u,h.uses.subset hu,he⟩)
  ·intro hany;obtain⟨x,hx,he⟩:=dZ.1 hany;obtain⟨k,hk,hkx⟩:=dl.1 hx;rw[dm] at hk;rw[fm] at hkx;obtain⟨hi,hil⟩:=df.1 hl;have hp:=dI.1 (hb.apartL.sublist h.loans) k i (by omega) hi (by omega);rw[hkx,hil] at hp;simp only[cZ,beq_iff_eq,decide_eq_true_eq] at he;exact hp ⟨he.1,he.2.1,he.2.2⟩
 ·have hcm:=List.mem_of_getElem? hc;have hcb:=h.cmps.subset hcm;have hid:=h.cmpsId c hcm;obtain⟨j,hj,hjc⟩:=List.mem_iff_getElem.1 hcb;have hz:=hb.compares j c (by rw[List.getElem?_eq_getElem hj,hjc]);have hpz:=hb.pilesOf hcb;unfold mj at hz ⊢
  split at hz
  ·omega
  rename_i q1;rw[if_neg q1,if_neg ?_]
  ·unfold yf at hpz ⊢
   have r5:(c.2.2.1++c.2.2.2.1).any (fun id=>jt (Ť s) id c.2.1==5)=false:=by
    rw[List.any_eq_false];intro x hx;rw[NS h hb (hid x hx)];obtain⟨⟨g,hg,hd⟩,_⟩:=hb.pile hcb hx;unfold jt;rw[hZ hb.ids,hg];dsimp only;rw[if_neg (by omega)];simp
   have r4:(c.2.2.1++c.2.2.2.1).any (fun id=>jt (Ť s) id c.2.1==4)=false:=by
    rw[List.any_eq_false];intro x hx;rw[NS h hb (hid x hx)];obtain⟨⟨g,hg,hd⟩,_⟩:=hb.pile hcb hx;unfold jt;rw[hZ hb.ids,hg];dsimp only;rw[if_neg (by omega)];simp
   have r9:(c.2.2.1++c.2.2.2.1).any (fun id=>(j5 s id c.2.1).isSome)=false:=by
    rw[eo];intro x hx;rw[apx h hb (hb.pile hcb hx).2];simp
   rw[r5,r4,r9];simp only[dv,if_false]
   (repeat' split at hpz)<;>first|omega|(rename_i w1 w2 w3; rw[if_neg w1,if_neg w2,if_neg w3])|skip
  ·intro hany;obtain⟨x,hx,he⟩:=dZ.1 hany;obtain⟨k,hk,hkx⟩:=dl.1 hx;rw[dm] at hk;rw[fm] at hkx;obtain⟨hi,hic⟩:=df.1 hc;have hp:=dI.1 (hb.distinct.sublist h.cmps) k i (by omega) hi (by omega);rw[hkx,hic] at hp;exact hp (eq_of_beq he)
 ·obtain⟨⟨g,hg,e,hd⟩,hid⟩:=h.looks n hn';rw[alX h hb hid];have hday:=hb.day hg hd;unfold af8 jt;rw[hZ hb.ids,←e,ű hb.ids hg];dsimp only;rw[if_neg (by simp[Il,inP]; omega),if_neg (by omega)]
theorem apu:E7 s b=true:=by
 unfold E7 Ν;simp only[Bool.and_eq_true,List.all_eq_true,Bool.or_eq_true,Bool.not_eq_true',decide_eq_true_eq,N2,Bool.not_true,Bool.false_eq_true,false_or]
 have q:∀{x:Int},x∈oJ s∨(oJ s).contains x=false:=fun {x}=>by
  by_cases hx:x∈oJ s
  ·exact .inl hx
  ·exact .inr (by simpa using hx)
 exact⟨fun c hc=>h.cmps.subset hc,h.film,fun g hg=>h.gauges.subset hg,fun u hu=>.inr (h.uses.subset hu),fun u hu=>(q (x:=u.1)).elim (fun hx=>.inr (h.usesAll u hu hx)) .inl,
  fun u hu=>.inr (h.loans.subset hu),fun u hu=>(q (x:=u.1)).elim (fun hx=>.inr (h.loansAll u hu hx)) .inl⟩
end
theorem wB (w:List Int):∀(l:List Cmp) (i:Nat),(tp w i l).Sublist l
 |[],_=>List.Sublist.slnil
 |c::t,i=>by
  unfold tp
  split
  ·exact(wB w t (i+1)).cons_cons c
  ·exact(wB w t (i+1)).cons c
theorem Sb {w:List Int} {c:Cmp}:∀{l:List Cmp} {i:Nat},c∈tp w i l↔∃j:Nat,l[j]?=some c∧((i+j:Nat):Int)∈w
 |[],i=>by simp[tp]
 |a::t,i=>by
  unfold tp;have ih:=@Sb w c t (i+1)
  have e:(∃j:Nat,(a::t)[j]?=some c∧((i+j:Nat):Int)∈w)↔(a=c∧((i:Nat):Int)∈w)∨∃j:Nat,t[j]?=some c∧((i+1+j:Nat):Int)∈w:=by
   constructor
   ·rintro⟨j,h1,h2⟩
    cases j with
    |zero=>exact .inl ⟨by simpa using h1,by simpa using h2⟩
    |succ j=>exact .inr ⟨j,by simpa using h1,by rw[show i+1+j=i+(j+1) by omega]; exact h2⟩
   ·rintro(⟨h1,h2⟩|⟨j,h1,h2⟩)
    ·exact⟨0,by simp[h1],by simpa using h2⟩
    ·exact⟨j+1,by simpa using h1,by rw[show i+(j+1)=i+1+j by omega]; exact h2⟩
  rw[e]
  split
  ·rename_i hc;rw[di,ih]
   have hc':((i:Nat):Int)∈w:=by simpa using hc
   constructor
   ·rintro(h1|h1)
    ·exact .inl ⟨h1.symm,hc'⟩
    ·exact .inr h1
   ·rintro(h1|h1)
    ·exact .inl h1.1.symm
    ·exact .inr h1
  ·rename_i hc;rw[ih]
   have hc':¬((i:Nat):Int)∈w:=by simpa using hc
   exact⟨.inr,fun h1=>h1.elim (fun h2=>absurd h2.2 hc') id⟩
section
variable {b:Þ} (hb:Ċ b) {ss looks:List (Int×Int)} (hss:∀s∈ss,aqZ b s) (hlk:∀n∈looks,af0 b n) (hk:looks.length≤10)
include hb
theorem ajx {x:Int} (hx:x∈Io b ss looks) (hg:∃g∈b.2.1,g.1=x):x∈oJ (SQ b ss looks):=by
 obtain⟨g,hg,rfl⟩:=hg;exact dP.2 ⟨g,d8.2 ⟨hg,by simpa using hx⟩,rfl⟩
theorem anL {x:Int} (hx:x∈oJ (SQ b ss looks)):x∈Io b ss looks:=by
 obtain⟨g,hg,rfl⟩:=dP.1 hx;simpa using(d8.1 hg).2
include hlk hk
theorem anI:SubB (SQ b ss looks) b:=by
 refine⟨rfl,fQ,fQ,fun u hu=>?_,fun u hu hid=>?_,fQ,fun l hl=>?_,fun l hl hid=>?_,wB _ _ _,fun c hc x hx=>?_,fun n hn=>?_,hk⟩
 ·obtain⟨h1,h2⟩:=d8.1 hu;obtain⟨_,g,hg,_⟩:=Ov hb (hb.uses u h1);exact ajx hb (by simpa using h2) ⟨g,iD hg⟩
 ·exact d8.2 ⟨hu,by simpa using anL hb hid⟩
 ·obtain⟨h1,h2⟩:=d8.1 hl;obtain⟨i,hi,e⟩:=dl.1 h1;have hz:=hb.loans i l (by rw[cX hi,e])
  have hm:jt (Ť b) l.1 l.2.1.1=0:=by
   unfold HA at hz
   split at hz
   ·omega
   split at hz
   ·omega
   split at hz
   ·rename_i q; simp only[bne_iff_ne,ne_eq] at q; exact absurd hz q
   ·rename_i q; simpa using q
  obtain⟨g,hg,_⟩:=Jc hb hm;exact ajx hb (by simpa using h2) ⟨g,iD hg⟩
 ·exact d8.2 ⟨hl,by simpa using anL hb hid⟩
 ·obtain⟨j,hj,hw⟩:=Sb.1 (show c∈tp (Bq ss) 0 b.2.2.2.2.1 from hc);rw[Nat.zero_add] at hw;obtain⟨q,hq,e⟩:=List.mem_map.1 hw;obtain⟨h1,h2⟩:=List.mem_filter.1 hq;obtain⟨⟨g,hg,_⟩,_⟩:=hb.pile (List.mem_of_getElem? hj) hx;refine ajx hb (List.mem_append.2 (.inl (List.mem_flatMap.2 ⟨q,h1,?_⟩))) ⟨g,iD hg⟩;unfold xZ;rw[if_pos (by simpa using h2),e,Int.toNat_natCast,hj];exact hx
 ·obtain⟨g,hg,e,hd⟩:=hlk n hn;exact⟨⟨g,hg,e,hd⟩,ajx hb (dh.2 (.inr (dP.2 ⟨n,hn,rfl⟩))) ⟨g,hg,e⟩⟩
theorem ajy:Ċ (SQ b ss looks):=apv (anI hb hlk hk) hb
theorem ajw:E7 (SQ b ss looks) b=true:=apu (anI hb hlk hk) hb
end
theorem abb {α β γ:Type} (F:α→List β) (G:Nat→α→List γ):∀(l:List α) (k:Nat),(∀i a,l[i]?=some a→(F a).length=(G (k+i) a).length) →
 ∀(n:Nat) (x:β) (y:γ),(l.flatMap F)[n]?=some x→((l.mapIdx fun i a=>G (k+i) a).flatten)[n]?=some y→∃i a,l[i]?=some a∧x∈F a∧y∈G (k+i) a
 |[],k,_,n,x,y,h,_=>by simp at h
 |a::t,k,hl,n,x,y,h1,h2=>by
  rw[dM] at h1;rw[List.mapIdx_cons,f7] at h2;have e0:=hl 0 a (by simp);rcases dA n (F a).length with hn|hn
  ·rw[eS hn] at h1;rw[eS (by rw[←e0]; exact hn)] at h2;exact⟨0,a,by simp,dg h1,dg h2⟩
  ·rw[eE hn] at h1;rw[eE (by rw[←e0]; exact hn),←e0] at h2
   have h2':((t.mapIdx fun i a=>G (k+1+i) a).flatten)[n-(F a).length]?=some y:=by
    have e:(fun(i:Nat) (a:α)=>G (k+1+i) a)=fun i a=>G (k+(i+1)) a:=by
     funext i a; rw[show k+1+i=k+(i+1) by omega]
    rw[e];exact h2
   obtain⟨i,c,q1,q2,q3⟩:=abb F G t (k+1) (fun i c hc=>by
    have:=hl (i+1) c (by simpa using hc);rw[show k+1+i=k+(i+1) by omega]
    exact this) _ x y h1 h2'
   exact⟨i+1,c,by simpa using q1,q2,by rw[show k+(i+1)=k+1+i by omega]; exact q3⟩
theorem afe (b:Þ) (i:Nat) (g:é):(á b g).length=(à b i g).length:=by
 unfold à á;rw[List.length_append,List.length_append,Ņ _ _ (fun _=>rfl),Ņ _ _ (fun _=>rfl)];rfl
theorem ap4 {b:Þ} {n:Nat} {x:Lk} {y:Int×Int} (h1:(Ø b)[n]?=some x) (h2:(ĥ b)[n]?=some y) :
 ((y.1=1∨y.1=2)∧∃g,b.2.1[y.2.toNat]?=some g∧x∈á b g)∨(y.1=3∧∃c,b.2.2.2.2.1[y.2.toNat]?=some c∧x∈ø b c∧y.2=((y.2.toNat:Nat):Int)):=by
 have hlen:((b.2.1.mapIdx (à b)).flatten).length=(b.2.1.flatMap (á b)).length:=by
  rw[List.length_flatten,List.length_flatMap];congr 1;refine gU (by simp) fun i q1 q2=>?_;simp only[List.getElem_map,List.getElem_mapIdx];exact(afe b i _).symm
 unfold Ø at h1;unfold ĥ at h2;rcases Nat.lt_or_ge n (b.2.1.flatMap (á b)).length with hn|hn
 ·rw[eS hn] at h1;rw[eS (by rw[hlen]; exact hn)] at h2;have hm:=Sl y (dg h2)
  have h2':((b.2.1.mapIdx fun i a=>à b (0+i) a).flatten)[n]?=some y:=by
   have e:(fun(i:Nat) (a:é)=>à b (0+i) a)=à b:=by funext i a; rw[du]
   rw[e]; exact h2
  obtain⟨i,g,q1,q2,q3⟩:=abb (á b) (à b) b.2.1 0 (fun i g _=>afe b _ g) n x y h1 h2';rw[du] at q3
  have hy:y.2=(i:Int):=by
   unfold à at q3;rcases List.mem_append.1 q3 with h|h
   ·simp at h; rw[h]
   ·obtain⟨_,_,h⟩:=dC.1 h;simp at h; rw[h]
  exact .inl ⟨hm.1,g,by rw[hy,dt]; exact q1,q2⟩
 ·rw[eE hn] at h1;rw[eE (by rw[hlen]; exact hn),hlen] at h2;have hm:=SS y (dg h2)
  have h2':((b.2.2.2.2.1.mapIdx fun i (a:Cmp)=>(fun(i:Nat) (_:Cmp)=>[((3:Int),(i:Int)),((3:Int),(i:Int))]) (0+i) a).flatten)[n-(b.2.1.flatMap (á b)).length]?=some y:=by
   have e:(fun(i:Nat) (_:Cmp)=>[((3:Int),((0+i:Nat):Int)),((3:Int),((0+i:Nat):Int))])=fun(i:Nat) (_:Cmp)=>[((3:Int),(i:Int)),((3:Int),(i:Int))]:=by funext i _; rw[du]
   exact(congrArg (fun f=>((b.2.2.2.2.1.mapIdx f).flatten)[n-(b.2.1.flatMap (á b)).length]?) e).trans h2
  obtain⟨i,c,q1,q2,q3⟩:=abb (ø b) (fun(i:Nat) (_:Cmp)=>[((3:Int),(i:Int)),((3:Int),(i:Int))]) b.2.2.2.2.1 0 (fun i c _=>rfl) _ x y h1 h2'
  have hy:y.2=(i:Int):=by simp at q3; rw[q3]
  exact .inr ⟨hm.1,c,by rw[hy,dt]; exact q1,q2,by rw[hy,dt]⟩
section
variable {b:Þ} (hb:Ċ b) {l:List Int} (hl:∀i∈l,0≤i∧i.toNat<(Ø b).length) {looks:List (Int×Int)} (hlk:∀n∈looks,af0 b n) (hk:looks.length≤10)
include hb hl hlk hk
theorem anK {f:Int→Int→Int} {z:Int} (hh:ao4 (SQ b (lF b l) looks) f z):∀i∈l,∀x,(Ø b)[i.toNat]?=some x→OK b f z x.2.1≤OK b f z x.1+x.2.2:=by
 intro i hi x hx;have hs:=ajy hb hlk hk (ss:=lF b l);have hp:=ajw hb hlk hk (ss:=lF b l);have hr:=hl i hi;have hsx:(ĥ b)[i.toNat]?=some ((ĥ b)[i.toNat]'(by rw[IP hb]; exact hr.2)):=cX _;generalize (ĥ b)[i.toNat]'(by rw[IP hb]; exact hr.2)=y at hsx;have hys:y∈lF b l:=dP.2 ⟨i,hi,by rw[hsx]; rfl⟩;rcases ap4 hx hsx with⟨hk1,g,hg,hm⟩|⟨hk1,c,hc,hm,e⟩
 ·have hgb:=dg hg
  have hgs:g∈(SQ b (lF b l) looks).2.1:=by
   refine List.mem_filter.2 ⟨hgb,?_⟩;simp only[List.contains_iff_mem];refine List.mem_append.2 (.inl (List.mem_flatMap.2 ⟨y,hys,?_⟩));unfold xZ;rw[if_neg (by omega),hg];simp
  have hG:ara b f z g:=by
   have:=hh.gauge g hgs;exact⟨this.hi,this.lo,this.down,fun d e q1 q2=>by rw[←amk hs hb hp hgs]; exact this.loss d e q1 q2⟩
  exact(l8 hb hg).2 (IW hb hgb hG) x hm
 ·have hcb:=dg hc
  have hcs:c∈(SQ b (lF b l) looks).2.2.2.2.1:=Sb.2 ⟨y.2.toNat,hc,by
   rw[du,←e]
   exact dP.2 ⟨y,d8.2 ⟨hys,by simp[hk1]⟩,rfl⟩⟩
  have h1:=hh.cmp c hcs;rw[amj hs hb hp hcs] at h1;have h2:=EW (f:=f) (z:=z) hb (c:=c) (fun x hx=>nw hb hcb hx);unfold ø at hm;simp only[List.mem_cons,List.not_mem_nil,or_false] at hm;rcases hm with rfl|rfl
  ·dsimp only; omega
  ·dsimp only; omega
end
theorem abU {L:List Lk} {p:Int→Int}:∀(l:List Int) (u s:Int),(∀i∈l,υ L i=false)→(∀i∈l,∀x,L[i.toNat]?=some x→p x.2.1≤p x.1+x.2.2)→(kM L u s l).2.2=true→p (kM L u s l).1-p u≤(kM L u s l).2.1-s
 |[],u,s,_,_,_=>by unfold kM; dsimp only; omega
 |i::t,u,s,hi,hp,h=>by
  unfold kM at h ⊢;have h0:=hi i (by simp);simp only[υ,Bool.or_eq_false_iff,decide_eq_false_iff_not] at h0;have hg:L[i.toNat]?=some L[i.toNat]:=List.getElem?_eq_getElem (by omega);have hx:=hp i (by simp) _ hg;rw[hg] at h ⊢;simp only[Option.getD_some] at h ⊢
  by_cases hu:L[i.toNat].1=u
  ·rw[if_pos hu] at h ⊢;have:=abU t _ _ (fun j hj=>hi j (by simp[hj])) (fun j hj=>hp j (by simp[hj])) h;rw[hu] at hx;omega
  ·rw[if_neg hu] at h;cases h
theorem AB {L:List Lk} {i:Int}:υ L i=false↔0≤i∧i.toNat<L.length:=by
 simp only[υ,fI,decide_eq_false_iff_not];omega
section
variable {B:Þ} (hR:asM B) {n:Int×Int} (hn:af0 B n) (upper:Bool)
include hR hn
end
section
variable {b:Þ} (hb:Ċ b) {q:List Int} (hq:∀i∈q,υ (Ø b) i=false) {u s:Int} (hw:kM (Ø b) u 0 q=(u,s,true)) (hs:s<0)
include hb hq hw hs
theorem anM:Ċ (SQ b (lF b q) [])∧E7 (SQ b (lF b q) []) b=true∧Ĕ (Ø (SQ b (lF b q) [])) ((Ì (SQ b (lF b q) [])).length+1)=false:=by
 have hl:∀i∈q,0≤i∧i.toNat<(Ø b).length:=fun i hi=>AB.1 (hq i hi)
 have h0:∀m∈([]:List (Int×Int)),af0 b m:=fun m hm=>by simp at hm
 have hg:=ajy hb (ss:=lF b q) h0 (by simp);refine⟨hg,ajw hb h0 (by simp),?_⟩;rw[Bool.eq_false_iff];intro ho;obtain⟨f,z,hf⟩:=(O5 hg).1 ho;have:=abU (p:=OK b f z) q u 0 hq (anK hb hl h0 (by simp) hf) (by rw[hw]);rw[hw] at this;dsimp only at this;omega
end
section
variable {L:List Lk} {N:Nat}
def aqz {ρ:Type} (c0:List (List Int)) (c6:List Lk):@zP ρ c0 c6=ars (fun n=>ilt n 0) c0 c6:=rfl
def xY (L:List Lk) (N:Nat):List (List (List Int)):=(List.range N).map fun(n:Nat)=>i8 L N n N
def aj6 {L:List Lk} {N n:Nat} (h:n<N):(xY L N)[n]?=some (i8 L N n N):=by
 unfold xY;rw[List.getElem?_map,List.getElem?_range h];rfl
def agd {ρ:Type} (hS:Ą L N) (K:List (List (List Int))→Option ρ) :
 Í (fun(v56:Int×List (List (List Int))) kk59=>nQ (Ö (List.replicate N ([]:(Val (.slice (.slice tI)))))) (N:Int) L v56.1 v56.2 (fun u57 u58=>kk59 (u57,u58)) K) ((0:Int),(List.replicate N ([]:(Val (.slice (.slice tI))))))=K (xY L N):=by
 have hN:=hS.n60;refine ë (List.replicate N ()) (fun i=>((List.range i).map fun(n:Nat)=>i8 L N n N)++List.replicate (N-i) ([]:List (List Int))) _ (by simp) (fun i a hi ha kn=>?_) (fun kn=>?_)
 ·try dsimp only
  unfold nQ;rw[List.length_replicate] at hi;rw[Ü,List.length_replicate,Ñ (decide_eq_true (by omega)),ajm hS ⟨by omega,by omega⟩ (by omega),À]
  have hlen:(((List.range i).map fun(n:Nat)=>i8 L N n N)++List.replicate (N-i) ([]:List (List Int))).length=N:=by simp; omega
  rw[show ā (((List.range i).map fun(n:Nat)=>i8 L N n N)++List.replicate (N-i) ([]:List (List Int)))=(N:Int) by unfold ā; rw[hlen],ă (by omega) (by omega),Int.toNat_natCast]
  have hget:(((List.range i).map fun(n:Nat)=>i8 L N n N)++List.replicate (N-i) ([]:List (List Int)))[i]?=some []:=by
   rw[eE (by simp),List.getElem?_replicate,if_pos (by simp; omega)]
  rw[jI hget,Ò (by omega) (by omega)];congr 2;rw[gW _ _ (by simp),List.range_succ,gG]
  have e:N-i=(N-(i+1))+1:=by omega
  rw[e,gD];simp
 ·try dsimp only
  unfold nQ;rw[Ü,List.length_replicate,List.length_replicate,Î (decide_eq_false (by omega))];unfold xY;simp
def acg {ρ:Type} (hS:Ą L N) {k:Nat} (hk:k<N) (k0:Unit→Option ρ) (k1:Int×List Int→Option ρ) (k2:Unit→Option ρ) :
 Í (fun(v48:Int) kk50=>nP ((k:Int)+1) L (Ö L) (N:Int) L (xY L N) v48 (fun u49=>kk50 u49) k0 k1 k2) (0:Int) =
  match L.find? (Μ L N k) with|some l=>k1 (0,jA L (exL L N l.1) (fun n=>ilt n 0) (k+1) l.1 0 [])|none=>k2 ():=by
 have hN:=hS.n60;have hl3:=hS.len;rw[Oa];refine(ś L (Μ L N k) (fun j=>match L[j.toNat]? with|some l=>k1 (0,jA L (exL L N l.1) (fun n=>ilt n 0) (k+1) l.1 0 [])|none=>k2 ()) (k2 ()) (fun i l hi hl kn=>?_) (fun kn=>?_)).trans ?_
 ·try dsimp only
  unfold nP;have hm:=List.mem_of_getElem? hl;have hr:=hS.inr l hm;have hmo:=hS.most l hm
  have hto:((l.1.toNat:Nat):Int)=l.1:=by omega
  have hg:(xY L N)[l.1.toNat]?=some (i8 L N l.1 N):=by rw[aj6 (by omega),hto]
  have hol:ā (xY L N)=(N:Int):=by simp[ā,xY]
  have hlim:=tk hS hr.1 k (by omega) l.2.1;rw[Ð hi,Ç hl,hol,ă hr.1.1 hr.1.2,jI hg,show((k:Int)+1-1)=(k:Int) by omega,Ò (by omega) (by omega),Ç (uZ (by omega)),wG hr.2.1 (by rw[SI]; omega)];unfold Μ
  by_cases h1:gv (exL L N l.1 k) l.2.1=ď
  ·rw[Ñ (beq_iff_eq.2 h1),Ë hi (by omega),if_neg (by simp[h1])]
  ·have hb:=hlim h1;rw[Î (beq_eq_false_iff_ne.2 h1),Ò (by omega) (by omega)]
   by_cases h2:l.2.2+gv (exL L N l.1 k) l.2.1<0
   ·rw[Î (decide_eq_false (by omega)),Î (decide_eq_false (by omega)),ă hr.1.1 hr.1.2,jI hg,if_pos (by simp[h1,h2]),aqz,dt,hl];have hex:∀j,j<k+1→(i8 L N l.1 N)[j]?=some (exL L N l.1 j):=fun j hj=>uZ (by omega)
    have hx:∀j,j<k+1→Lim 900000000000000000 (exL L N l.1 j)∧(exL L N l.1 j).length=N:=fun j hj=>⟨fun w hw=>by
     have:=tk hS hr.1 j (by omega) w hw; omega,SI _ _⟩
    have:=anr hS (fun n=>ilt n 0) (rest:=i8 L N l.1 N) (R:=exL L N l.1) (k0:=k+1) (by omega) hex hx l.1 (fun z=>k1 (0,z));rw[show(((k+1:Nat):Int))=(k:Int)+1 by push_cast; rfl] at this;exact this
   ·rw[Ñ (decide_eq_true (by omega)),Ë hi (by omega),if_neg (by simp[h1,h2])]
 ·try dsimp only
  unfold nP;rw[Ù]
 ·cases h:L.findIdx? (Μ L N k) with
  |none=>rfl
  |some j=>dsimp only; rw[Int.toNat_natCast]
def TA (hS:Ą L N) (hno:Ĕ L N=false):∃(K:Nat) (l:Lk),K<N∧(∀k,k<K→∀x∈L,Μ L N k x=false)∧L.find? (Μ L N K)=some l∧mh ((N:Int),L)=some (jA L (exL L N l.1) (fun n=>ilt n 0) (K+1) l.1 0 [],0):=by
 have hN:=hS.n60;obtain⟨K0,hK0,l0,hl0,hb0⟩:=alp hS hno
 -- the first number of links
 have hex:∃K,K≤K0∧(∃l∈L,Μ L N K l=true)∧∀k,k<K→∀x∈L,Μ L N k x=false:=by
  have:∀n:Nat,(∀k,k<n→∀x∈L,Μ L N k x=false)∨∃K,K<n∧(∃l∈L,Μ L N K l=true)∧∀k,k<K→∀x∈L,Μ L N k x=false:=by
   intro n
   induction n with
   |zero=>exact .inl fun k hk=>by omega
   |succ n ih =>
    rcases ih with h|⟨K,h1,h2⟩
    ·by_cases hx:∃l∈L,Μ L N n l=true
     ·exact .inr ⟨n,by omega,hx,h⟩
     ·refine .inl fun k hk x hxm=>?_;rcases Nat.lt_or_eq_of_le (Nat.le_of_lt_succ hk) with h1|rfl
      ·exact h k h1 x hxm
      ·exact ee.2 fun e=>hx ⟨x,hxm,e⟩
    ·exact .inr ⟨K,by omega,h2⟩
  rcases this (K0+1) with h|⟨K,h1,h2,h3⟩
  ·have:=h K0 (by omega) l0 hl0;rw[hb0] at this; cases this
  ·exact⟨K,by omega,h2,h3⟩
 obtain⟨K,hK,⟨l1,hl1,hb1⟩,hfirst⟩:=hex
 obtain⟨l,hl⟩:∃l,L.find? (Μ L N K)=some l:=by
  cases h:L.find? (Μ L N K) with
  |none=>have:=ew.1 h l1 hl1; exact absurd hb1 this
  |some l=>exact⟨l,rfl⟩
 refine⟨K,l,by omega,hfirst,hl,?_⟩;unfold mh GS;rw[jZ hS,À,Î (by rfl),vh hS.links hS.n1 (by omega),À,if_neg (by simp[hno]),Î (by rfl),okN (by omega),Int.toNat_natCast];refine(agd hS _).trans ?_;refine ġ (fun v=>∃k:Nat,k≤K∧v=(k:Int)+1) (fun v=>(K+2)-v.toNat) ?_ ⟨0,by omega,rfl⟩;rintro v ⟨k,hk,rfl⟩;rcases Nat.lt_or_eq_of_le hk with h|rfl
 ·refine .inr ⟨((k+1:Nat):Int)+1,⟨k+1,h,rfl⟩,by omega,fun kn=>?_⟩;unfold sa;refine(acg hS (by omega) _ _ _).trans ?_
  have hnone:L.find? (Μ L N k)=none:=ew.2 fun x hx=>by rw[hfirst k h x hx]; simp
  rw[hnone];dsimp only;rw[Ò (by omega) (by omega)];congr 1
 ·refine .inl fun kn=>?_;unfold sa;refine(acg hS (by omega) _ _ _).trans ?_;rw[hl]
end
def XX {b:Þ} (hg:Ċ b) (hn:∀g∈b.2.1,I64 g.2.2.2.2.1.1) (hno:Ĕ (Ø b) ((Ì b).length+1)=false) :
 ∃c:aj1,me b=some (c,0)∧c.2.1=(0,0)∧iW c=0∧E7 c.1 b=true∧Ċ c.1∧(∀g∈c.1.2.1,I64 g.2.2.2.2.1.1)∧c.2.2.2.1=0∧c.2.2.1=false∧c.2.2.2.2.length≤60∧Ĕ (Ø c.1) ((Ì c.1).length+1)=false∧mh (NR c.1)=some (c.2.2.2.2,0):=by
 obtain⟨K,l,hK,_,hl,hrun⟩:=TA hg.sys hno;obtain⟨q,q1,q2,q3,q4,u,s,q5,q6⟩:=Aw hg.sys hK (List.mem_of_find?_eq_some hl) (List.find?_some hl);obtain⟨c1,c2,c3⟩:=anM hg q3 q5 q6;have hn60:=hg.sys.n60;have hqi:∀i∈q,0≤i∧i.toNat<(Ø b).length:=fun i hi=>AB.1 (q3 i hi);have hsub:∀g∈(SQ b (lF b q) []).2.1,I64 g.2.2.2.2.1.1:=fun g hgm=>hn g (List.mem_filter.1 hgm).1;obtain⟨K',l',hK',_,hl',hrun'⟩:=TA c1.sys c3;obtain⟨p,p1,p2,p3,p4,_⟩:=Aw c1.sys hK' (List.mem_of_find?_eq_some hl') (List.find?_some hl');have hn61:=c1.sys.n60;refine⟨(SQ b (lF b q) [],(0,0),false,0,p),?_,rfl,?_,c2,c1,hsub,rfl,rfl,by dsimp only; omega,c3,by rw[sJ,hrun',p1]⟩
 ·unfold me zz;rw[kv (hg.inn hn),À,Ξ hg,Î (by rfl),show((((Ì b).length:Int)+1,Ø b),ĥ b,(0:Int)).1=NR b from rfl,sJ,hrun,À,Î (by rfl)];dsimp only;rw[q1,V9 hg hn (by omega) hqi,À,arw hg.size (by unfold lF; rw[List.length_map]; omega) (by simp) (aiA hg hqi),À,kv (c1.inn hsub),À,Ξ c1,show((((Ì (SQ b (lF b q) [])).length:Int)+1,Ø (SQ b (lF b q) [])),ĥ (SQ b (lF b q) []),(0:Int)).1=NR (SQ b (lF b q) []) from rfl,sJ,hrun',À,Î (by rfl),p1]
 ·unfold iW;rw[if_neg (by simp[(ê _).2 c1]),if_neg (by simp),if_pos p4]
section
variable {L:List Lk} {N:Nat}
end
def abQ (L:List Lk):List Lk:=L.map fun l=>(l.2.1,l.1,l.2.2)
section
variable {L:List Lk} {N:Nat}
def Ą.rev (h:Ą L N):Ą (abQ L) N:=by
 refine⟨h.n1,h.n60,by unfold abQ; rw[List.length_map]; exact h.len,fun l hl=>?_,fun l hl=>?_,fun l hl=>?_⟩<;>obtain⟨m,hm,rfl⟩:=List.mem_map.1 hl
 ·exact⟨(h.inr m hm).2,(h.inr m hm).1⟩
 ·exact fun e=>h.noloop m hm e.symm
 ·exact h.most m hm
def ase {u v m:Int} (h:(u,v,m)∈abQ L):(v,u,m)∈L:=by
 obtain⟨l,hl,e⟩:=dP.1 h;obtain⟨a,b,c⟩:=l;simp only[Prod.mk.injEq] at e;obtain⟨rfl,rfl,rfl⟩:=e;exact hl
def arY {u v m:Int} (h:(u,v,m)∈L):(v,u,m)∈abQ L:=dP.2 ⟨_,h,rfl⟩
def Wk.rev {u v:Int} {k:Nat} {d:Int} (h:Wk (abQ L) u k v d):Wk L v k u d:=by
 induction h with
 |nil=>exact .nil
 | @step k v w m d h1 h2 ih =>
  have:=ih.snoc (ase h1);rw[Int.add_comm] at this;exact this
def Wk.unrev {u v:Int} {k:Nat} {d:Int} (h:Wk L u k v d):Wk (abQ L) v k u d:=by
 induction h with
 |nil=>exact .nil
 | @step k v w m d h1 h2 ih =>
  have:=ih.snoc (arY h1);rw[Int.add_comm] at this;exact this
def wkF (L:List Lk) (N k:Nat) (u v:Int):Int:=gv (exL (abQ L) N u k) v
def abT (hS:Ą L N) {k:Nat} (hk:k≤200) {u v:Int} (hu:0≤u∧u<N) (hv:0≤v∧v<N):wkF L N k u v=gv (exL L N v k) u:=by
 obtain⟨a1,a2⟩:=Ig hS.rev hu k hk v hv.1 hv.2;obtain⟨b1,b2⟩:=Ig hS hv k hk u hu.1 hu.2;unfold wkF
 by_cases h1:gv (exL (abQ L) N u k) v=ď
 ·by_cases h2:gv (exL L N v k) u=ď
  ·rw[h1,h2]
  ·exact absurd h1 (a2 _ (b1 h2).unrev).2
 ·have c1:=b2 _ (a1 h1).rev;have c2:=a2 _ (b1 c1.2).unrev;omega
def XN (hS:Ą L N) {k:Nat} (hk:k≤100) {u v:Int} (hu:0≤u∧u<N) (hf:wkF L N k u v≠ď) : -450359962737049600≤wkF L N k u v∧wkF L N k u v≤450359962737049600:=by
 have:=tk hS.rev hu k (by omega) v hf;unfold wkF;omega
def apg {u v:Int} (hu:0≤u∧u<N) (hv:0≤v∧v<N):wkF L N 0 u v=Xu u v:=by
 unfold wkF exL Xu;rw[oK hu.1 hv.1 (by simp; omega),Sk hv.1 hv.2]
 by_cases h:v=u
 ·rw[if_pos h,if_pos h.symm]
 ·rw[if_neg h,if_neg (Ne.symm h)]
end
section
variable {ρ:Type} {L:List Lk} {N:Nat}
def aj8:@sQ ρ=@iK ρ:=rfl
def aj7:@sP ρ=@iK ρ:=rfl
def Ac (f:Int→Int→Int) {u:Int} (h0:0≤u) (h1:u<N) (K:List Int→Option ρ):ï (sI N f) u K=K (TB N (f u)):=by
 have hu:((u.toNat:Nat):Int)=u:=by omega
 have:=Ç (aix (N:=N) f h0 h1) K;rw[hu] at this;exact this
def Ad (g:Int→Int) {v:Int} (h0:0≤v) (h1:v<N) (K:Int→Option ρ):ï (TB N g) v K=K (g v):=by
 have hu:((v.toNat:Nat):Int)=v:=by omega
 have:=Ç (aiG (N:=N) g h0 h1) K;rw[hu] at this;exact this
def wkP (L:List Lk) (N k:Nat) (u:Int) (i:Nat):List Int:=((abQ L).take i).foldl (iv (exL (abQ L) N u k)) (List.replicate N ď)
def arL (k:Nat) (u:Int) (i:Nat):(wkP L N k u i).length=N:=by unfold wkP; rw[Bo]; simp
def apf {k:Nat} {u:Int} {i:Nat} {l:Lk} (hl:L[i]?=some l):wkP L N k u (i+1)=iv (exL (abQ L) N u k) (wkP L N k u i) (l.2.1,l.1,l.2.2):=by
 have h:(abQ L)[i]?=some (l.2.1,l.1,l.2.2):=by unfold abQ; rw[List.getElem?_map,hl]; rfl
 unfold wkP;rw[take_succ h,List.foldl_append];rfl
def arJ (hS:Ą L N) {k:Nat} (hk:k≤100) {u:Int} (hu:0≤u∧u<N) (i:Nat):Lim (k*4503599627370496+4503599627370496) (wkP L N k u i) :=
 aaZ hS.rev (B:=k*4503599627370496) (by omega) (by omega) (tk hS.rev hu k (by omega)) _ (fun l hl=>List.mem_of_mem_take hl) _ (by simp) (KI (by omega))
def alU (hS:Ą L N) {k:Nat} (hk:k≤100) {u:Int} (hu:0≤u∧u<N) {g:Int→Int→Int} (hg:∀b:Int,0≤b→b<N→g u b=ď) (K:List (List Int)→Option ρ) :
 Í (fun(v44:Int×List (List Int)) kk47=>kg (sI N (wkF L N k)) u L v44.1 v44.2 (fun u45 u46=>kk47 (u45,u46)) K) ((0:Int),sI N g)=K (sI N fun a b=>if a=u then wkF L N (k+1) u b else g a b):=by
 have hl3:=hS.len;have e0:ď=(1152921504606846976:Int):=rfl;refine ë L (fun i=>sI N fun a b=>if a=u then gv (wkP L N k u i) b else g a b) _ ?_ (fun i l hi hl kn=>?_) (fun kn=>?_)
 ·refine jq fun a b h0 h1 h2 h3=>?_
  by_cases ha:a=u
  ·rw[if_pos ha,ha,hg b h2 h3];exact Sk h2 h3
  ·rw[if_neg ha]
 ·try dsimp only
  unfold kg;have hm:=List.mem_of_getElem? hl;have h1:=hS.inr l hm;have h2:=hS.most l hm;have lm:=arJ hS hk hu i;have hlen:=arL (L:=L) (N:=N) k u i;rw[Ð hi,Ç hl,Ac _ hu.1 hu.2,Ad _ h1.1.1 h1.1.2,apf hl]
  by_cases hf:wkF L N k u l.1=ď
  ·rw[Î (by rw[hf]; rfl),Ë hi (by omega)];unfold iv;rw[if_pos (show gv (exL (abQ L) N u k) (l.2.1,l.1,l.2.2).2.1=ď from hf)]
  ·have hw:=XN hS hk hu hf;rw[Ñ (bne_iff_ne.2 hf),oO,ă hu.1 hu.2,ă hu.1 hu.2,jj _ hu.1 hu.2,kz,ă h1.2.1 h1.2.2,jj _ hu.1 hu.2,jH _ h1.2.1 h1.2.2,Ac _ hu.1 hu.2,Ad _ h1.1.1 h1.1.2,Ò (by omega) (by omega),jj _ hu.1 hu.2,kz,ă h1.2.1 h1.2.2,jj _ hu.1 hu.2,jH _ h1.2.1 h1.2.2,Ë hi (by omega),XV _ hu.1 h1.2.1];congr 1;refine jq fun a b h3 h4 h5 h6=>?_;unfold iv;rw[if_neg (show ¬gv (exL (abQ L) N u k) (l.2.1,l.1,l.2.2).2.1=ď from hf)]
   by_cases ha:a=u
   ·subst ha;rw[if_pos rfl,oK (x:=wkP L N k a i) h1.2.1 h5 (by omega)]
    by_cases hb:b=l.2.1
    ·rw[if_pos ⟨rfl,hb⟩,if_pos hb,if_pos rfl,wF];show min _ (wkF L N k a l.1+l.2.2)=min _ (l.2.2+wkF L N k a l.1);rw[Int.add_comm]
    ·rw[if_neg (fun h=>hb h.2),if_neg hb,if_pos rfl]
   ·rw[if_neg (fun h=>ha h.1),if_neg ha,if_neg ha]
 ·try dsimp only
  unfold kg;rw[Ù];congr 1;refine jq fun a b h0 h1 h2 h3=>?_;have:(abQ L).take L.length=abQ L:=List.take_of_length_le (by simp[abQ])
  have e:wkF L N (k+1) u b=gv (wkP L N k u L.length) b:=by
   unfold wkP;rw[this];rfl
  rw[e]
def alV (hS:Ą L N) {k:Nat} (hk:k≤100) (K:List (List Int)→Option ρ) :
 Í (fun(v50:Int×List (List Int)) kk53=>kh (sI N (wkF L N k)) (N:Int) L v50.1 v50.2 (fun u51 u52=>kk53 (u51,u52)) K) ((0:Int),sI N Xu)=K (sI N (wkF L N (k+1))):=by
 have hN:=hS.n60;refine ë (List.replicate N ()) (fun i=>sI N fun a b=>if a<i then wkF L N (k+1) a b else Xu a b) _ ?_ (fun i a hi ha kn=>?_) (fun kn=>?_)
 ·refine jq fun a b h0 h1 h2 h3=>?_;rw[if_neg (by omega)]
 ·try dsimp only
  unfold kh;rw[List.length_replicate] at hi
  have i0:(0:Int)≤(i:Int):=by omega
  have i1:(i:Int)<(N:Int):=by omega
  rw[Ñ (decide_eq_true i1),oO,ă i0 i1,jj _ i0 i1,kz,ă i0 i1,jj _ i0 i1,jH _ i0 i1,XV _ i0 i0];refine(alU hS hk ⟨i0,i1⟩ (fun b h0 h1=>?_) _).trans ?_
  ·by_cases hb:b=(i:Int)
   ·rw[if_pos ⟨rfl,hb⟩]
   ·rw[if_neg (fun h=>hb h.2),if_neg (by omega)];unfold Xu;rw[if_neg (Ne.symm hb)]
  ·rw[Ò (by omega) (by omega)];congr 1;refine jq fun a b h0 h1 h2 h3=>?_
   by_cases ha:a=(i:Int)
   ·rw[if_pos ha,if_pos (by push_cast; omega),ha]
   ·rw[if_neg ha,if_neg (fun h=>ha h.1)]
    by_cases h5:a<(i:Int)
    ·rw[if_pos h5,if_pos (by push_cast; omega)]
    ·rw[if_neg h5,if_neg (by push_cast; omega)]
 ·try dsimp only
  unfold kh;rw[List.length_replicate,Î (decide_eq_false (by omega))];congr 1;exact jq fun a b h0 h1 h2 h3=>if_pos h1
def lE (L:List Lk) (N m:Nat):List (List (List Int)):=(List.range m).map fun k=>sI N (wkF L N k)
def vf {m k:Nat} (h:k<m):(lE L N m)[k]?=some (sI N (wkF L N k)):=by
 unfold lE;rw[List.getElem?_map,List.getElem?_range h];rfl
def aoD (hS:Ą L N) {m:Nat} (hm:m≤60):wP ((N:Int),L) (m:Int)=some (lE L N (m+1)):=by
 have hN:=hS.n60;unfold wP D0;dsimp only;rw[aj8];refine(XP hN _).trans ?_;refine ġ (fun v=>∃k:Nat,k≤m∧v=((k:Int)+1,lE L N (k+1))) (fun v=>(m+2)-v.1.toNat) ?_ ⟨0,by omega,?_⟩
 ·rintro v ⟨k,hk,rfl⟩;dsimp only;rcases Nat.lt_or_eq_of_le hk with h|rfl
  ·refine .inr ⟨(((k+1:Nat):Int)+1,lE L N (k+1+1)),⟨k+1,h,rfl⟩,by dsimp only; omega,fun kn=>?_⟩;unfold nq
   have ho:ā (lE L N (k+1))=((k+1:Nat):Int):=by simp[ā,lE]
   rw[Ñ (decide_eq_true (by omega)),Ò (by omega) (by omega),show((k:Int)+1-1)=(k:Int) by omega,ho,ă (by omega) (by omega),Int.toNat_natCast,jI (vf (Nat.lt_succ_self k)),aj7];refine(XP hN _).trans ?_;refine(alV hS (by omega) _).trans ?_;rw[ğ (Ó (by simp only[lE,List.length_map,List.length_range,List.length_singleton]; omega)),Ò (by omega) (by omega)];congr 2;unfold lE;rw[List.range_succ (n:=k+1),List.map_append];rfl
  ·refine .inl fun kn=>?_;unfold nq;rw[Î (decide_eq_false (by omega))]
 ·congr 1;unfold lE;simp only[Nat.zero_add,List.range_one,List.map_cons,List.map_nil];congr 1;exact jq fun a b h0 h1 h2 h3=>(apg ⟨h0,h1⟩ ⟨h2,h3⟩).symm
end
def pW (L:List Lk) (N k:Nat) (to most u:Int) (l:Lk):Bool:=l.1==u&&(decide (wkF L N k l.2.1 to≠ď)&&decide (l.2.2+wkF L N k l.2.1 to≤most))
def TE (L:List Lk) (N:Nat) (to:Int):Nat→Int→Int→List Int→List Int
 |0,_,_,out=>out
 |k+1,most,u,out=>match L.findIdx? (pW L N k to most u) with
  |some i=>TE L N to k (most-(L[i]?.getD (0,0,0)).2.2) (L[i]?.getD (0,0,0)).2.1 (out++[(i:Int)])
  |none=>TE L N to k most u out
section
variable {ρ:Type} {L:List Lk} {N:Nat}
def arM (hS:Ą L N) {m k:Nat} (hk:k<m) (hm:m≤61) {to:Int} (ht:0≤to∧to<N) {most u:Int} (hb : -1000000000000000000≤most∧most≤1000000000000000000) {out:List Int} (ho:out.length≤1000) (K:Int×Int×List Int→Option ρ) :
 Í (fun(v:Int×Int×Int×List Int) kk=>ln (lE L N m) ((k+1:Nat):Int) to L v.1 v.2.1 v.2.2.1 v.2.2.2 (fun a b c d=>kk (a,b,c,d)) K) (most,u,(0:Int),out) =
  match L.findIdx? (pW L N k to most u) with|some i=>K (most-(L[i]?.getD (0,0,0)).2.2,(L[i]?.getD (0,0,0)).2.1,out++[(i:Int)])|none=>K (most,u,out):=by
 have hl3:=hS.len;refine ġ (fun v=>∃i:Nat,i≤L.length∧v=(most,u,(i:Int),out)∧∀j l,j<i→L[j]?=some l→pW L N k to most u l=false) (fun v=>L.length-v.2.2.1.toNat) ?_ ⟨0,by omega,rfl,fun j l h=>by omega⟩;rintro v ⟨i,hi,rfl,hp⟩
 have e0:(((k+1:Nat):Int)-1)=(k:Int):=by omega
 rcases dA i L.length with h2|h2
 ·have hl:L[i]?=some L[i]:=cX h2;generalize L[i]=l at hl;have hm:=dg hl;have h1:=hS.inr l hm;have h4:=hS.most l hm
  by_cases hf:pW L N k to most u l=true
  ·refine .inl fun kn=>?_
   have hfi:L.findIdx? (pW L N k to most u)=some i:=by
    rw[dL];obtain⟨hh,rfl⟩:=df.1 hl;exact⟨h2,hf,fun j hj=>by have:=hp j _ hj (cX (by omega)); rw[this]; simp⟩
   rw[hfi];unfold pW at hf;simp only[Bool.and_eq_true,beq_iff_eq,decide_eq_true_eq] at hf;have h5:=XN hS (by omega) h1.2 hf.2.1;dsimp only;unfold ln
   rw[Ð h2,Ç hl,e0,Ò (by omega) (by omega),Ç (vf hk),Ac _ h1.2.1 h1.2.2,Ad _ ht.1 ht.2,Ñ (by simp[ieq,hf.1]),Ñ (bne_iff_ne.2 hf.2.1),Ò (by omega) (by omega),Ñ (decide_eq_true hf.2.2),
    ğ (Ó (by simp; omega)),Ò (by omega) (by omega),hl]
   rfl
  ·have hf':pW L N k to most u l=false:=Bool.not_eq_true _▸hf;refine .inr ⟨(most,u,(i:Int)+1,out),⟨i+1,h2,by rw[show((i+1:Nat):Int)=(i:Int)+1 by push_cast; rfl],fun j m hj hm=>?_⟩,by dsimp only; omega,fun kn=>?_⟩
   ·rcases gN.1 hj with h|rfl
    ·exact hp j m h hm
    ·rw[hl] at hm; cases hm; exact hf'
   dsimp only;unfold ln;rw[Ð h2,Ç hl,e0,Ò (by omega) (by omega),Ç (vf hk),Ac _ h1.2.1 h1.2.2,Ad _ ht.1 ht.2];rw[Ë h2 (by omega)]
   by_cases g1:l.1=u
   ·rw[Ñ (by simp[ieq,g1])]
    by_cases g2:wkF L N k l.2.1 to=ď
    ·rw[Î (by rw[g2]; rfl)]
    ·have h5:=XN hS (by omega) h1.2 g2
     have g3:¬(l.2.2+wkF L N k l.2.1 to≤most):=fun h=>by
      unfold pW at hf';simp[g1,g2,h] at hf'
     rw[Ñ (bne_iff_ne.2 g2),Ò (by omega) (by omega),Î (decide_eq_false g3)]
   ·rw[Î (by simpa[ieq] using g1)]
 ·refine .inl fun kn=>?_
  obtain rfl:i=L.length:=by omega
  have hfi:L.findIdx? (pW L N k to most u)=none:=by
   rw[dT];intro l hl;obtain⟨j,hj,rfl⟩:=dl.1 hl;exact hp j _ hj (cX hj)
  rw[hfi];dsimp only;unfold ln;rw[Ù]
def asK (hS:Ą L N) {m k0:Nat} (hk:k0≤m) (hm:m≤61) {to:Int} (ht:0≤to∧to<N) {most u:Int} (hb : -10000000000000000≤most∧most≤10000000000000000):HX ((N:Int),L) (lE L N m) (k0:Int) u to most=some (TE L N to k0 most u []):=by
 unfold HX Qi;dsimp only
 have key:=n0 (f:=fun(v20:Int×Int×Int×List Int) kk25=>rO (lE L N m) to L v20.1 v20.2.1 v20.2.2.1 v20.2.2.2 (fun u21 u22 u23 u24=>kk25 (u21,u22,u23,u24)) (fun z19=>some z19)) (F:=fun v=>some (TE L N to v.1.toNat v.2.1 v.2.2.1 v.2.2.2))
  (fun v=>∃k:Nat,v.1=k∧k≤k0∧(-(10000000000000000+((k0-k:Nat):Int)*4503599627370496)≤v.2.1∧v.2.1≤10000000000000000+((k0-k:Nat):Int)*4503599627370496)∧v.2.2.2.length≤k0-k) (fun v=>v.1.toNat) (fun v hv kn hk'=>?_) (x:=((k0:Int),most,u,[])) ⟨k0,rfl,cY _,by simp; omega,by simp⟩
 ·rw[key]; simp
 ·obtain⟨k',sum,w,out⟩:=v;obtain⟨k,e,h1,h2,h3⟩:=hv;dsimp only at e h2 h3 hk' ⊢;subst e;rw[Int.toNat_natCast] at hk' ⊢;unfold rO
  cases k with
  |zero =>
   rw[Î (by rfl)];rfl
  |succ k =>
   rw[Ñ (decide_eq_true (by omega))];refine(arM hS (m:=m) (k:=k) (by omega) hm ht (by omega) (by omega) _).trans ?_;unfold TE
   have e0:(((k+1:Nat):Int)-1)=(k:Int):=by omega
   cases hn:L.findIdx? (pW L N k to sum w) with
   |none =>
    dsimp only;rw[e0,Ò (by omega) (by omega),hk' _ ⟨k,rfl,by omega,by dsimp only; omega,by dsimp only; omega⟩ (by simp)];simp
   |some i =>
    have hi:i<L.length:=(List.findIdx?_eq_some_iff_getElem.1 hn).1;have hl:L[i]?=some L[i]:=List.getElem?_eq_getElem hi;have h4:=hS.most L[i] (List.getElem_mem _);dsimp only;rw[hl];simp only[Option.getD_some];rw[e0,Ò (by omega) (by omega),hk' _ ⟨k,rfl,by omega,by dsimp only; omega,by simp; omega⟩ (by simp)];simp
def Ou (hS:Ą L N) {to:Int} (ht:0≤to∧to<N):∀(k:Nat),k≤100→∀(most u:Int) (out:List Int),0≤u→u<N→wkF L N k u to≠ď→wkF L N k u to≤most→(TE L N to k most u out).length=out.length+k
 |0,_,_,_,_,_,_,_,_=>rfl
 |k+1,hk,most,u,out,h0,h1,hf,hle=>by
  rw[abT hS (by omega) ⟨h0,h1⟩ ht] at hf hle;obtain⟨w,m,hl,hw,e⟩:=ajn hS ht (by omega) ⟨h0,h1⟩ hf;have hwr:=(hS.inr _ hl).2;rw[←abT hS (by omega) hwr ht] at hw;rw[e,←abT hS (by omega) hwr ht] at hle;unfold TE
  cases hn:L.findIdx? (pW L N k to most u) with
  |none =>
   have:=List.findIdx?_eq_none_iff.1 hn (u,w,m) hl;unfold pW at this;simp[hw,hle] at this
  |some i =>
   obtain⟨hi,hp,_⟩:=List.findIdx?_eq_some_iff_getElem.1 hn;have hg2:L[i]?=some L[i]:=List.getElem?_eq_getElem hi;have hm:=List.mem_of_getElem? hg2;generalize L[i]=x at hp hg2 hm;unfold pW at hp;simp only[Bool.and_eq_true,beq_iff_eq,decide_eq_true_eq] at hp;obtain⟨p1,p2,p3⟩:=hp;have hr:=(hS.inr x hm).2;dsimp only;rw[hg2];simp only[Option.getD_some];rw[Ou hS ht k (by omega) _ _ _ hr.1 hr.2 p2 (by omega)];simp;omega
def acl (hS:Ą L N) {k:Nat} (hk:k<N) (k0:List Int→Option ρ) (k1:Unit→Option ρ) :
 Í (fun(v17:Int) kk19=>lY (lE L N (N+1)) ((k:Int)+1) (N:Int) L v17 (fun u18=>kk19 u18) k0 k1) (0:Int) =
  match L.findIdx? (Μ L N k) with|some i=>k0 ([(i:Int)]++TE L N (L[i]?.getD (0,0,0)).1 k (-1-(L[i]?.getD (0,0,0)).2.2) (L[i]?.getD (0,0,0)).2.1 [])|none=>k1 ():=by
 have hN:=hS.n60;have hl3:=hS.len;refine(ś L (Μ L N k) (fun j=>match L[j.toNat]? with|some l=>k0 ([j]++TE L N l.1 k (-1-l.2.2) l.2.1 [])|none=>k1 ()) (k1 ()) (fun i l hi hl kn=>?_) (fun kn=>?_)).trans ?_
 ·try dsimp only
  unfold lY;have hm:=List.mem_of_getElem? hl;have hr:=hS.inr l hm;have hmo:=hS.most l hm
  have e0:((k:Int)+1-1)=(k:Int):=by omega
  rw[Ð hi,Ç hl,e0,Ò (by omega) (by omega),Ç (vf (by omega)),Ac _ hr.2.1 hr.2.2,Ad _ hr.1.1 hr.1.2];unfold Μ;rw[←abT hS (by omega) hr.2 hr.1]
  by_cases h1:wkF L N k l.2.1 l.1=ď
  ·rw[Î (by rw[h1]; rfl),Ë hi (by omega),if_neg (by simp[h1])]
  ·have hb:=XN hS (by omega) hr.2 h1;rw[Ñ (bne_iff_ne.2 h1),Ò (by omega) (by omega)]
   by_cases h2:l.2.2+wkF L N k l.2.1 l.1<0
   ·have hw:=Ou hS hr.1 k (by omega) (-1-l.2.2) l.2.1 [] hr.2.1 hr.2.2 h1 (by omega);rw[Ñ (decide_eq_true h2),Ò (by omega) (by omega),Ò (by omega) (by omega),asK hS (by omega) (by omega) hr.1 (by omega),À,ğ (Ó (by rw[hw]; simp; omega)),if_pos (by simp[h1,h2]),dt,hl]
   ·rw[Î (decide_eq_false h2),Ë hi (by omega),if_neg (by simp[h1,h2])]
 ·try dsimp only
  unfold lY;rw[Ù]
 ·cases h:L.findIdx? (Μ L N k) with
  |none=>rfl
  |some j =>
   have hj:=(List.findIdx?_eq_some_iff_getElem.1 h).1;dsimp only;rw[Int.toNat_natCast,List.getElem?_eq_getElem hj];rfl
def aoS (hS:Ą L N) (ht:BX L N) (hno:Ĕ L N=false) {K:Nat} (hK:K<N) (hfirst:∀k,k<K→∀x∈L,Μ L N k x=false) {l:Lk} (hl:L.find? (Μ L N K)=some l):∃q,uR ((N:Int),L)=some q∧q.length=K+1:=by
 have hN:=hS.n60;have hmem:=fG hl;have hb:=fL hl
 obtain⟨i,hi⟩:∃i,L.findIdx? (Μ L N K)=some i:=by
  cases h:L.findIdx? (Μ L N K) with
  |none=>have:=dT.1 h l hmem; rw[hb] at this; cases this
  |some i=>exact⟨i,rfl⟩
 obtain⟨hil,hib,_⟩:=dL.1 hi;have hg:L[i]?=some L[i]:=cX hil;have hm:=dg hg;refine⟨[(i:Int)]++TE L N (L[i]?.getD (0,0,0)).1 K (-1-(L[i]?.getD (0,0,0)).2.2) (L[i]?.getD (0,0,0)).2.1 [],?_,?_⟩
 ·unfold uR JL;rw[ajU hS ht,À,if_neg (by simp[hno]),Î (by rfl)];dsimp only;rw[aoD hS hN,À];refine ġ (fun v=>∃k:Nat,k≤K∧v=(k:Int)+1) (fun v=>(K+2)-v.toNat) ?_ ⟨0,by omega,rfl⟩;rintro v ⟨k,hk,rfl⟩;rcases Nat.lt_or_eq_of_le hk with h|rfl
  ·refine .inr ⟨((k+1:Nat):Int)+1,⟨k+1,h,rfl⟩,by omega,fun kn=>?_⟩;unfold o9;rw[Ñ (decide_eq_true (by omega))];refine(acl hS (by omega) _ _).trans ?_;have hnone:L.findIdx? (Μ L N k)=none:=List.findIdx?_eq_none_iff.2 fun x hx=>hfirst k h x hx;rw[hnone];dsimp only;rw[Ò (by omega) (by omega)];congr 1
  ·refine .inl fun kn=>?_;unfold o9;rw[Ñ (decide_eq_true (by omega))];refine(acl hS (by omega) _ _).trans ?_;rw[hi]
 ·rw[hg];simp only[Option.getD_some];generalize L[i]=x at hib hm;have hr:=hS.inr x hm;unfold Μ at hib;rw[←abT hS (by omega) hr.2 hr.1] at hib;simp only[Bool.and_eq_true,decide_eq_true_eq] at hib;rw[List.length_append,Ou hS hr.1 K (by omega) _ _ _ hr.2.1 hr.2.2 hib.1 (by omega)];simp;omega
end
def AG (n lo hi:Int):l9 n lo hi=some (inP n lo hi):=by
 unfold l9 agL inP ige ile
 cases h:decide (lo≤n)<;>simp_all
def abM (n:Int):wO n=some (Il n):=by
 unfold wO Zg;rw[AG]; rfl
def w7 (s:Int×Int) (lo hi:Int):jB s lo hi=some (j6 s lo hi):=by
 unfold jB yD j6 ile
 cases decide (lo≤s.1)<;>cases decide (s.1≤s.2)<;>rfl
def asP {l:List Int} (hn:l.length≤1000000) (x:Int):Oc l x=some (l.contains x):=by
 unfold Oc Zc;refine Eq.trans (Ģ l (fun a=>a==x) (fun _=>some true) (some true) (some false) (fun _=>rfl) (fun i a hi ha kn=>?_) (fun kn=>?_)) ?_
 ·try dsimp only
  unfold vG;rw[Ð hi,Ç ha,Ë hi (by omega),Č]
 ·try dsimp only
  unfold vG;rw[Ù]
 ·have:l.any (fun a=>a==x)=l.contains x:=by
   rw[dO,dZ,eN];constructor
   ·rintro⟨a,ha,e⟩; rw[←eq_of_beq e]; exact ha
   ·intro h; exact⟨x,h,by simp⟩
  rw[this]
  cases l.contains x<;>rfl
def akG {a b:List Int} {i:Nat} {x:Int} (h:a[i]?=some x):ç (a.take (i+1)) b=ç (a.take i) b++if b.contains x then[] else[x]:=by
 rw[take_succ h,ç,ç,gJ];congr 1
 cases hx:b.contains x<;>simp only[ej,hx,eJ,Bool.not_false,dv,if_false,if_true,eA]
def abL {a b:List Int} (ha:a.length≤1000000) (hb:b.length≤1000000):km a b=some (ç a b):=by
 unfold km P6;refine ë a (fun i=>ç (a.take i) b) _ rfl (fun i x hi hx kn=>?_) (fun kn=>?_)
 ·try dsimp only
  unfold rM
  have hl:(ç (a.take i) b).length≤1000000:=by
   have:=Aa (a.take i) b;rw[dm] at this;omega
  rw[Ð hi,Ç hx,asP hb,À,akG hx]
  cases b.contains x with
  |true=>rw[Î (by rfl),Ë hi (by omega)]; simp
  |false=>rw[Ñ (by rfl),Ç hx,Ó (by simp only[dK]; omega),Am.iff_true,Ë hi (by omega)]; simp
 ·try dsimp only
  unfold rM;rw[Ù,List.take_length]
def Mo (a b:List Int):Int:=(ç a b).head?.getD 0
def Lh {a b:List Int} (ha:a.length≤1000000) (hb:b.length≤1000000):pj a b=some (Mo a b):=by
 unfold pj YJ Mo;rw[abL ha hb,À,Ü]
 cases h:ç a b with
 |nil=>rfl
 |cons x t =>
  rw[Î (by simp[ieq]; omega)];exact Ç (i:=0) rfl _
def On {b:Þ} (hn:b.2.1.length≤1000000) (id:Int):qD b id=some (match b.2.1.findIdx? (fun g=>g.1==id) with|some j=>(j:Int)|none=>-1):=by
 unfold qD Qb;refine Eq.trans (ś b.2.1 (fun g=>g.1==id) (fun z=>some z) (some (-1)) (fun i a hi ha kn=>?_) (fun kn=>?_)) ?_
 ·try dsimp only
  unfold rN;rw[Ð hi,Ç ha,Ë hi (by omega),Č]
 ·try dsimp only
  unfold rN;rw[Ù]
 ·cases List.findIdx? (fun g:é=>g.1==id) b.2.1<;>rfl
def A8 {b:Þ} {id:Int}:(∃j g,b.2.1.findIdx? (fun g=>g.1==id)=some j∧b.2.1[j]?=some g∧ł b id=some g)∨(b.2.1.findIdx? (fun g=>g.1==id)=none∧ł b id=none):=by
 unfold ł;rw[Oa]
 cases h:b.2.1.findIdx? (fun g=>g.1==id) with
 |none=>exact .inr ⟨rfl,rfl⟩
 |some j =>
  obtain⟨hj,_,_⟩:=dL.1 h;exact .inl ⟨j,_,rfl,cX hj,cX hj⟩
def ι (b:Þ) (id day:Int):Int:=match ł b id with|some g=>if day<g.2.1 then 4 else 0|none=>5
def IC {b:Þ} (hn:b.2.1.length≤1000000) (id day:Int):nc b id day=some (ι b id day):=by
 unfold nc Jp ι;rw[On hn,À];rcases A8 (b:=b) (id:=id) with⟨j,g,h1,h2,h3⟩|⟨h1,h2⟩
 ·rw[h1,h3]
  try dsimp only
  rw[Î (by simp[ilt]),Ç h2,Č]
  by_cases hd:day<g.2.1
  ·rw[if_pos (by simpa[ilt] using hd),if_pos hd]
  ·rw[if_neg (by simpa[ilt] using hd),if_neg hd]
 ·rw[h1,h2];rfl
def Dm {b:Þ} (hi:b.2.1.Pairwise fun a b=>a.1<b.1) (id day:Int):ι b id day=jt (Ť b) id day:=by
 unfold ι jt;rw[hZ hi]
 cases ł b id<;>rfl
def ajW {b:Þ} (hn:b.2.2.2.1.length≤1000000) (id day:Int):Aj b id day=some (match j5 b id day with|some l=>(l,true)|none=>((0,(0,0),0),false)):=by
 unfold Aj P4;refine amW b.2.2.2.1 (fun _=>((0:Int),(0:Int),(0:Int),(0:Int))) _ (fun i=>∀l∈b.2.2.2.1.take i,(l.1==id&&inP day l.2.1.1 l.2.1.2)=false) rfl (by simp) (fun i a hi ha hP kn=>?_) (fun hP kn=>?_)
 ·try dsimp only
  unfold rL;rw[Ð hi,Ç ha]
  by_cases hm:(a.1==id&&inP day a.2.1.1 a.2.1.2)=true
  ·refine .inl ?_;have hm2:=hm;simp only[inP,cZ,beq_iff_eq,decide_eq_true_eq] at hm2;rw[Ñ (by simp[ieq,hm2.1]),Ñ (by simp[ile,hm2.2.1]),Ñ (by simp[ile,hm2.2.2])]
   have hf:j5 b id day=some a:=by
    unfold j5;obtain⟨hi',rfl⟩:=List.getElem?_eq_some_iff.1 ha;rw[List.find?_eq_some_iff_getElem];refine⟨hm,i,hi',rfl,fun j hj=>?_⟩;have:=hP b.2.2.2.1[j] (List.mem_iff_getElem.2 ⟨j,by rw[List.length_take]; omega,by rw[List.getElem_take]⟩);simp[this]
   rw[hf]
  ·refine .inr ⟨fun l hl=>?_,?_⟩
   ·rw[take_succ ha,dh,dk] at hl;rcases hl with hl|rfl
    ·exact hP l hl
    ·simpa using hm
   ·have hm2:=hm;simp only[inP,cZ,beq_iff_eq,decide_eq_true_eq] at hm2
    by_cases h1:a.1=id
    ·by_cases h2:a.2.1.1≤day
     ·rw[Ñ (by simp[ieq,h1]),Ñ (by simp[ile,h2]),Î (by simp[ile]; exact Int.lt_of_not_ge fun h3=>hm2 ⟨h1,h2,h3⟩),Ë hi (by omega)]
     ·rw[Ñ (by simp[ieq,h1]),Î (by simp[ile]; omega),Ë hi (by omega)]
    ·rw[Î (by simp[ieq,h1]),Ë hi (by omega)]
 ·try dsimp only
  unfold rL;rw[Ù]
  have:j5 b id day=none:=by
   unfold j5;rw[List.find?_eq_none];intro l hl;have:=hP l (by rw[List.take_length]; exact hl);simp[this]
  rw[this]
def aq5 {b:Þ} (hn:b.2.2.1.length≤1000000) (id day:Int):HW b id day=some (Mi b id day):=by
 unfold HW PK;refine Eq.trans (Ģ b.2.2.1 (fun u=>u.1==id&&u.2==day) (fun _=>some true) (some true) (some false) (fun _=>rfl) (fun i a hi ha kn=>?_) (fun kn=>?_)) ?_
 ·try dsimp only
  unfold rB;rw[Ð hi,Ç ha,Ç ha,Ë hi (by omega)]
  cases h1:(a.1==id) with
  |false=>have:ieq a.1 id=false:=h1; simp[this]
  |true =>
   have:ieq a.1 id=true:=h1;rw[this]
   cases h2:(a.2==day) with
   |false=>have:ieq a.2 day=false:=h2; simp[this]
   |true=>have:ieq a.2 day=true:=h2; simp[this]
 ·try dsimp only
  unfold rB;rw[Ù]
 ·unfold Mi
  cases b.2.2.1.any _<;>rfl
def aoQ (a b:Nat):Bh a b=some ((Nat.gcd a b:Nat):Int):=by
 unfold Bh Zy;refine ġ (fun x:Int×Int=>∃c d:Nat,x=((c:Int),(d:Int))∧Nat.gcd c d=Nat.gcd a b) (fun x=>x.2.toNat) ?_ ⟨a,b,rfl,rfl⟩;rintro x ⟨c,d,rfl,hg⟩
 cases d with
 |zero =>
  refine .inl fun kn=>?_;rw[Nat.gcd_zero_right] at hg;unfold vK;simp[hg,ine]
 |succ d =>
  refine .inr ⟨(((d+1:Nat):Int),((c % (d+1):Nat):Int)),⟨d+1,c % (d+1),rfl,?_⟩,?_,fun kn=>?_⟩
  ·rw[←hg,gY c (d+1),Nat.gcd_rec (d+1) c,gY]
  ·have:=gO c (gK d);simp only[dt];omega
  ·unfold vK
   have h1:ine ((d+1:Nat):Int) 0=true:=by simp[ine]; omega
   have h2:õ ((d+1:Nat):Int) 0=false:=by simp[õ]; omega
   simp only[h1,Ñ Î h2];congr 1
def aoT {n:Int} (h : -9223372036854775807≤n∧n≤9223372036854775807):H4 n=some (n.natAbs:Int):=by
 unfold H4 ZD
 by_cases hn:n<0
 ·rw[Ñ (by simpa[ilt] using hn),Ò (by omega) (by omega)];congr 1;omega
 ·rw[Î (by simpa[ilt] using hn)];congr 1;omega
def aoL (r:Int×Int):Bf r=some (Lt r):=by
 unfold Bf JM Lt
 by_cases h1:1≤r.2
 ·rw[Î (by simp[ilt]; omega)]
  by_cases h2:r.2≤2147483647
  ·rw[Î (by simp[igt]; omega)]
   by_cases h3:r.1 < -2147483647
   ·rw[Ñ (by simp[ilt]; omega)]
    have:¬((r.1.natAbs:Int)≤2147483647):=by omega
    simp[this]
   ·rw[Î (by simp[ilt]; omega)]
    by_cases h4:2147483647<r.1
    ·rw[Ñ (by simp[igt]; omega)]
     have:¬((r.1.natAbs:Int)≤2147483647):=by omega
     simp[this]
    ·rw[Î (by simp[igt]; omega),aoT ⟨by omega,by omega⟩,À]
     have h5:r.2=((r.2.natAbs:Nat):Int):=by omega
     have h6:((r.1.natAbs:Int)≤2147483647):=by omega
     rw[h5,aoQ,À,←h5];congr 1;rw[dO];simp only[ieq,beq_iff_eq,h1,h2,h6,decide_true,dV,decide_eq_true_eq];omega
  ·rw[Ñ (by simp[igt]; omega)];simp[h2]
 ·rw[Ñ (by simp[ilt]; omega)];simp[h1]
def aoJ (g:é):Bc g=some (qz g):=by
 unfold Bc Jm qz;rw[aoL,AG,AG,abM,AG,w7,AG];simp only[À]
 have e:igt g.2.2.2.2.1.2 100=!decide (g.2.2.2.2.1.2≤100):=by
  rw[dO]; simp[igt]
 rw[e]
 cases Lt g.2.2.2.2.1<;>cases inP g.2.2.2.2.1.1 (-1000) 1000<;>cases decide (g.2.2.2.2.1.2≤100)<;>cases inP g.1 1 1099511627776<;>cases Il g.2.1<;>cases inP g.2.2.1 1 1125899906842624<;>cases j6 g.2.2.2.1 (-1073741824) 1073741824<;>rfl
end Go.Proofs.ZzM
end
