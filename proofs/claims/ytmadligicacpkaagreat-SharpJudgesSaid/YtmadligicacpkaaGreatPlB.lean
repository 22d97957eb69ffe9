/- lemmas -/
import Derived.Test.YtmadligicacpkaaGreatPlA
import Derived.Test.YtmadligicacpkaaGreatMdTA
set_option linter.all false
set_option linter.unusedSectionVars false
set_option linter.unusedVariables false
set_option linter.unusedSimpArgs false
noncomputable section
namespace Go.Proofs.ZzM
open Go Go.Am
section
variable {L:List Lk} {N:Nat}
def Wl.app {u v:Int} {vs:List Int} {d:Int} (h1:Wl L (fun x=>x=u) vs v d) {ws:List Int} {w e:Int} (h2:Wl L (fun x=>x=v) ws w e):∃xs,Wl L (fun x=>x=u) xs w (d+e):=by
 induction h2 with
 |nil h=>subst h; exact⟨vs,by rw[f6]; exact h1⟩
 |step hw hx ih =>
  obtain⟨xs,hi⟩:=ih;have:=Wl.step hi hx;rw[Int.add_assoc] at this;exact⟨_,this⟩
def dst (L:List Lk) (N:Nat) (s t:Int):Int:=gv (ŕ L N s) t
def ajE (h:į L N) (ht:vZ L N) (ho:ģ L N=true) {s t:Int} (hs:0≤s∧s<N) (hv:0≤t∧t<N):dst L N s t≤9007199254740992:=by
 have h2:=h.n60;obtain⟨p,hp⟩:=(Ĭ h.links (by omega)).1 ho;obtain⟨vs,d,hw,hd⟩:=ht.from' s hs.1 hs.2;obtain⟨ws,e,hx,he⟩:=ht.to t hv.1 hv.2;obtain⟨xs,hy⟩:=Wl.app hw hx;have:=(Β h.links (by omega) hp hs).low t xs _ (N1.2 hy);unfold dst;omega
def afF (h:į L N) (ht:vZ L N) (ho:ģ L N=true) {s t:Int} (hs:0≤s∧s<N) (hv:0≤t∧t<N):dst L N s t≠ľ:=by
 have:=ajE h ht ho hs hv;unfold ľ;omega
def X7 (h:į L N) (ht:vZ L N) (ho:ģ L N=true) {s:Int} (hs:0≤s∧s<N):Pot L (dst L N s):=by
 have h2:=h.n60;obtain⟨p,hp⟩:=(Ĭ h.links (by omega)).1 ho;intro u v m hl;have hr:=h.inr _ hl;exact(Β h.links (by omega) hp hs).pot h.inr hl (afF h ht ho hs hr.1)
def Ni (h:į L N) (ho:ģ L N=true) {s:Int} (hs:0≤s∧s<N):dst L N s s=0:=Rk h ho hs.1 hs.2
def X8 (h:į L N) (ht:vZ L N) (ho:ģ L N=true) {s t:Int} (hs:0≤s∧s<N) (hv:0≤t∧t<N) {p:Int→Int} (hp:Pot L p):p t-p s≤dst L N s t:=by
 have h2:=h.n60;obtain⟨vs,hw⟩:=(Β h.links (by omega) hp hs).att t hv.1 hv.2 (afF h ht ho hs hv);obtain⟨u,hu,hx⟩:=(N1.1 hw).pot hp;subst hu;exact hx
def ajF (h:į L N) (ht:vZ L N) (ho:ģ L N=true) {x y:Int} (hx:0≤x∧x<N) (hy:0≤y∧y<N) {t:Int} (h1 : -(dst L N x y)≤t) (h2:t≤dst L N y x):∃p,Pot L p∧p x-p y=t:=by
 refine⟨fun v=>min (dst L N y v) (dst L N x v+t),fun u v m hl=>?_,?_⟩
 ·have a1:=X7 h ht ho hy u v m hl;have a2:=X7 h ht ho hx u v m hl;show min _ _≤min _ _+m;omega
 ·have e1:=Ni h ho hx;have e2:=Ni h ho hy;show min (dst L N y x) (dst L N x x+t)-min (dst L N y y) (dst L N x y+t)=t;omega
def Hq (h:į L N) (ht:vZ L N) (ho:ģ L N=true) {x y:Int} (hx:0≤x∧x<N) (hy:0≤y∧y<N) : -(dst L N x y)≤dst L N y x:=by
 have h2:=h.n60;obtain⟨p,hp⟩:=(Ĭ h.links (by omega)).1 ho;have a1:=X8 h ht ho hx hy hp;have a2:=X8 h ht ho hy hx hp;omega
def afG (h:į L N) (ht:vZ L N) (ho:ģ L N=true) {s t:Int} (hs:0≤s∧s<N) (hv:0≤t∧t<N) : -9007199254740992≤dst L N s t∧dst L N s t≤9007199254740992:=by
 have a1:=ajE h ht ho hs hv;have a2:=ajE h ht ho hv hs;have a3:=Hq h ht ho hv hs;omega
def AC (h:į L N) (ht:vZ L N) {s t:Int} (hs:0≤s∧s<N) (hv:0≤t∧t<N):ii L N s t=if ģ L N then(dst L N s t,0) else(0,9):=by
 unfold ii
 by_cases ho:ģ L N=true
 ·have hne:=afF h ht ho hs hv;unfold dst at hne ⊢;rw[if_neg (by simp[ho]),if_neg hne,if_pos ho]
 ·rw[if_pos (by simpa using ho),if_neg ho]
end
section
variable {b:Þ} {c:Cmp}
def anM (h':ē (ì b c)):GL (ì b c) (ø (ì b c)):=by
 intro i g hg l hl;rw[adP];exact cQ.2 (.inl (dn.2 ⟨g,cR hg,hl⟩))
def jR (h':ē (ì b c)):vZ (ø (ì b c)) ((Ê (ì b c)).length+1):=h'.tiedL (anM h')
def jw (h':ē (ì b c)):į (ø (ì b c)) ((Ê (ì b c)).length+1) :=
 h'.sys.sub (fun l hl=>List.mem_of_mem_take hl) (by unfold ø; rw[List.length_take]; omega)
def pE (h:ē b) (h':ē (ì b c)):ģ (ø (ì b c)) ((Ê (ì b c)).length+1)=ģ (Ý b) ((Ê b).length+1):=by
 have n1:=h.sys.n60;have n2:=(jw h').n60;rw[dJ,Ĭ (jw h').links (by omega),Ĭ h.sys.links (by omega)];exact(aiv h h').symm
def zL:c∈(ì b c).2.2.2.2.1:=by simp[ì]
def Ci (h':ē (ì b c)):0≤cx (ì b c) c∧cx (ì b c) c<((Ê (ì b c)).length+1:Nat):=(Yb h' zL).rng
def Ch (h':ē (ì b c)):0≤cy (ì b c) c∧cy (ì b c) c<((Ê (ì b c)).length+1:Nat):=(QY h' zL).rng
def dLo (b:Þ) (c:Cmp):Int:=-(dst (ø (ì b c)) ((Ê (ì b c)).length+1) (cx (ì b c) c) (cy (ì b c) c))
def dHi (b:Þ) (c:Cmp):Int:=dst (ø (ì b c)) ((Ê (ì b c)).length+1) (cy (ì b c) c) (cx (ì b c) c)
def Rs (h:ē b) (h':ē (ì b (É c))):Ľ b c=if ģ (Ý b) ((Ê b).length+1) then NA b (É c) (dLo b (É c),dHi b (É c)) else((0,0),9):=by
 have e:zB b (É c)=(ì b (É c),0):=by
  unfold zB;rw[if_neg (by simp[(ë b).2 h]),if_neg (by simp[(ë _).2 h'])]
 unfold Ľ;rw[e,AC (jw h') (jR h') (Ch h') (Ci h'),AC (jw h') (jR h') (Ci h') (Ch h'),pE h h']
 by_cases ho:ģ (Ý b) ((Ê b).length+1)=true
 ·rw[if_pos ho,if_pos ho,if_pos ho];rfl
 ·rw[if_neg ho,if_neg ho,if_neg ho];rfl
def oH (hp:(Ľ b c).2=0):ē b∧ē (ì b (É c)):=by
 have hw:(zB b (É c)).2=0:=by
  unfold Ľ at hp
  by_cases hw:(zB b (É c)).2=0
  ·exact hw
  ·rw[if_pos hw] at hp; exact hp
 unfold zB at hw
 by_cases hb:ç b=0
 ·rw[if_neg (by simp[hb])] at hw
  by_cases hm:ç (ì b (É c))=0
  ·exact⟨(ë b).1 hb,(ë _).1 hm⟩
  ·rw[if_pos hm] at hw; exact absurd hw hm
 ·rw[if_pos hb] at hw; exact absurd hw hb
def acB {s:Int×Int} (h:(NA b c s).2=0):adJ b c≤DG b c∧NA b c s=((s.1+adJ b c,s.2+DG b c),0):=by
 unfold NA at h ⊢
 split at h
 ·simp at h
 ·rename_i hl;rw[if_neg hl];exact⟨by omega,rfl⟩
end
structure ahO (B:Þ):Prop where
 good:ē B
 op:ģ (Ý B) ((Ê B).length+1)=true
 num:∀g∈B.2.1,I64 g.2.2.2.2.1.1
theorem kO {b:Þ} (hI:In b) {ns:List (Int×Int)} (e:(ý b ns).2=0):ahO (ý b ns).1∧(ý b ns).1=(ŏ b ns).1∧(ŏ b ns).2=0∧ē b:=by
 unfold ý at e ⊢
 by_cases hc:ç b=0
 ·rw[if_neg (by simp[hc])] at e ⊢
  by_cases hr:(ŏ b ns).2=0
  ·rw[if_neg (by simp[hr])] at e ⊢
   cases ho:ģ (Ý (ŏ b ns).1) ((Ê (ŏ b ns).1).length+1) with
   |true =>
    rw[if_pos rfl];exact⟨⟨D3 ((ë b).1 hc) hr,ho,by rw[t7 hr]; exact hI.num⟩,rfl,hr,(ë b).1 hc⟩
   |false=>rw[ho] at e; simp at e
  ·rw[if_pos hr] at e; exact absurd e hr
 ·rw[if_pos hc] at e; exact absurd e hc
theorem ŝ (B:Þ) (n:Int×Int):0≤jH B n.1 n.2∧jH B n.1 n.2<((Ê B).length+1:Nat):=by
 unfold jH
 cases h:ix (Ê B) n.1 n.2 with
 |none=>dsimp only; omega
 |some j=>have:=(ku h).1; dsimp only; omega
theorem Lu {B:Þ} (h:ē B) (hn:∀g∈B.2.1,I64 g.2.2.2.2.1.1) (s:Sys) (n:Int×Int):Ķ (B,s) n=some (jH B n.1 n.2):=by
 unfold Ķ Db;rw[show Ş (B,s).1 n=Ş B n from rfl,Ru (h.inn hn),À,DQ h]
 split
 ·rename_i e; rw[e]
 ·rfl
theorem ab5 {B:Þ} {L:List Lk} {N:Nat} (h:į L N) {to from':Int} (h1:0≤to∧to<N) (h2:0≤from'∧from'<N):Ĉ (B,(N:Int),L) to from'=some (ii L N from' to).1:=by
 unfold Ĉ rE;rw[show(B,(N:Int),L).2=((N:Int),L) from rfl,No h h2 h1,À]
def DR (B:Þ):Sys:=(((Ê B).length:Int)+1,Ý B)
def DT (B:Þ) (s t:Int):Int:=dst (Ý B) ((Ê B).length+1) s t
def ivR (B:Þ) (n:Int×Int):Int×Int:=(-(DT B (jH B n.1 n.2) 0),DT B 0 (jH B n.1 n.2))
theorem Cp (B:Þ):DR B=((((Ê B).length+1:Nat):Int),Ý B):=by unfold DR; push_cast; rfl
theorem Ĩ (B:Þ):0≤(0:Int)∧(0:Int)<((Ê B).length+1:Nat):=by omega
section
variable {B:Þ} (h:ahO B)
include h
theorem vR {s t:Int} (hs:0≤s∧s<((Ê B).length+1:Nat)) (ht:0≤t∧t<((Ê B).length+1:Nat)) : -9007199254740992≤DT B s t∧DT B s t≤9007199254740992 :=
 afG h.good.sys h.good.tied h.op hs ht
theorem Az {to from':Int} (h1:0≤to∧to<((Ê B).length+1:Nat)) (h2:0≤from'∧from'<((Ê B).length+1:Nat)):Ĉ (B,DR B) to from'=some (DT B from' to):=by
 rw[Cp,ab5 h.good.sys h1 h2,AC h.good.sys h.good.tied h2 h1,if_pos h.op];rfl
theorem UK (n:Int×Int):π (B,DR B) n=some (-(DT B (jH B n.1 n.2) 0)):=by
 unfold π rD;have hb:=vR h (ŝ B n) (Ĩ B);rw[Lu h.good h.num,À,Az h (Ĩ B) (ŝ B n),À,Õ (by omega) (by omega)];congr 1;omega
theorem G2 (n:Int×Int):ig (B,DR B) n=some (DT B 0 (jH B n.1 n.2)):=by
 unfold ig mh;rw[Lu h.good h.num,À,Az h (ŝ B n) (Ĩ B),À]
theorem ow (n:Int×Int):Ŕ (B,DR B) n=some (ivR B n):=by
 unfold Ŕ mg;rw[UK h,À,G2 h,À];rfl
end
def HL (b:Þ) (n:Int×Int):(Int×Int)×Int:=if (ý b [n]).2≠0 then((0,0),(ý b [n]).2) else(ivR (ý b [n]).1 n,0)
theorem Rt {b:Þ} (hI:In b) (n:Int×Int):nq b n=some (HL b n):=by
 unfold nq yr HL;refine(qj hI (ns:=[n]) (by simp) (fun e=>some (((0,0):Int×Int),e)) (fun e he=>by rw[ĝ (by simp[ine,he])]) (fun z he=>by rw[ĝ (by simp[ine,he])]) (fun _ _ _=>rfl)).trans ?_
 split
 ·rfl
 ·rename_i e;have hr:=(kO hI (by simpa using e)).1;dsimp only;rw[vC,show((((Ê (ý b [n]).1).length:Int)+1,Ý (ý b [n]).1):Sys)=DR (ý b [n]).1 from rfl,ow hr,À]
theorem ahu {ρ:Type}:@rN ρ=@ą ρ:=rfl
theorem alN {ρ:Type}:@yq ρ=@ą ρ:=rfl
def btR (B:Þ) (m n:Int×Int):Int×Int:=(-(DT B (jH B m.1 m.2) (jH B n.1 n.2)),DT B (jH B n.1 n.2) (jH B m.1 m.2))
def YG (b:Þ) (m n:Int×Int):(Int×Int)×Int:=if (ý b [m,n]).2≠0 then((0,0),(ý b [m,n]).2) else(btR (ý b [m,n]).1 m n,0)
theorem ahJ {b:Þ} (hI:In b) (m n:Int×Int):vM b m n=some (YG b m n):=by
 unfold vM Dl YG;rw[ahu];refine(qj hI (ns:=[m,n]) (by simp) (fun e=>some (((0,0):Int×Int),e)) (fun e he=>by rw[ĝ (by simp[ine,he])]) (fun z he=>by rw[ĝ (by simp[ine,he])]) (fun _ _ _=>rfl)).trans ?_
 split
 ·rfl
 ·rename_i e;have hr:=(kO hI (by simpa using e)).1;dsimp only;generalize (ý b [m,n]).1=B at hr ⊢;have hb:=vR hr (ŝ B m) (ŝ B n)
  rw[vC,show((((Ê B).length:Int)+1,Ý B):Sys)=DR B from rfl,Lu hr.good hr.num,À,Lu hr.good hr.num,À,Az hr (ŝ B n) (ŝ B m),À,
   Õ (by omega) (by omega),Az hr (ŝ B m) (ŝ B n),À]
  unfold btR;rw[Int.zero_sub]
def Ĺ (s l:Int×Int):Int:=if l.1≤s.1∧s.2≤l.2 then 1 else if s.2<l.1∨l.2<s.1 then 2 else 3
theorem TH (s l:Int×Int):pL s l=some (Ĺ s l):=by
 unfold pL C7 Ĺ;simp only[Ĥ,ile,ilt,decide_eq_true_eq]
 by_cases h1:l.1≤s.1<;>by_cases h2:s.2≤l.2<;>by_cases h3:s.2<l.1<;>by_cases h4:l.2<s.1<;>simp[h1,h2,h3,h4]
def HJ (b:Þ) (n l:Int×Int):Int×Int:=if (ý b [n]).2≠0 then(0,(ý b [n]).2) else if l.2<l.1 then(0,1) else(Ĺ (ivR (ý b [n]).1 n) l,0)
theorem af7 {b:Þ} (hI:In b) (n l:Int×Int):zh b n l=some (HJ b n l):=by
 unfold zh Pr HJ;rw[alN];refine(qj hI (ns:=[n]) (by simp) (fun e=>some ((0:Int),e)) (fun e he=>by rw[Ó (by simp[ine,he])]) (fun z he=>by rw[Ó (by simp[ine,he])]) (fun _ _ _=>rfl)).trans ?_
 split
 ·rfl
 ·rename_i e;have hr:=(kO hI (by simpa using e)).1;dsimp only
  by_cases hl:l.2<l.1
  ·rw[Ó (by simp[igt,hl]),if_pos hl]
  ·rw[Ð (by simp[igt]; omega),if_neg hl,vC,show((((Ê (ý b [n]).1).length:Int)+1,Ý (ý b [n]).1):Sys)=DR (ý b [n]).1 from rfl,ow hr,À,TH,À]
def Rw (x y:List Int):List Int×List Int×Int:=if !lM x then([],[],1) else if !lM y then([],[],1) else(è x y,è y x,0)
def acm {x y:List Int} (hx:x.length≤100000) (hy:y.length≤100000):tT x y=some (Rw x y):=by
 unfold tT Jr Rw;rw[GW (by omega),À]
 cases lM x with
 |false=>rfl
 |true =>
  rw[GW (by omega),À]
  cases lM y with
  |false=>rfl
  |true =>
   rw[rV (by omega) (by omega),À,rV (by omega) (by omega),À];rfl
def abz (ls:List (List Int)) (i:Nat):(ls.take i).flatten.length≤ls.flatten.length:=by
 conv=>rhs; rw[←List.take_append_drop i ls,ft,cN]
 omega
def oU {ls:List (List Int)} (hl:ls.length≤1000000) (hf:ls.flatten.length≤1000000):í ls=some ls.flatten:=by
 have hk:∀n:Nat,n≤4000000→∀(f:Int→Option (List Int)),ck (n:Int) f=f n:=fun n h f=>Õ (by omega) (by omega) f
 have second:Ò (fun(v9:(Val (.pair tI (.slice tI)))) kk12=>ï ls (Ú ls) v9.1 v9.2 (fun u10 u11=>kk12 (u10,u11)) (fun z8=>some z8)) ((0:Int),([]:List Int))=some ls.flatten:=by
  refine ð ls (fun i=>(ls.take i).flatten) (some ls.flatten) (f:=fun(v9:(Val (.pair tI (.slice tI)))) kk12=>ï ls (Ú ls) v9.1 v9.2 (fun u10 u11=>kk12 (u10,u11)) (fun z8=>some z8)) rfl (fun i x hi hx kn=>?_) (fun kn=>?_)
  ·try dsimp only
   unfold ï;have h1:=abz ls (i+1);rw[take_succ hx,List.flatten_append,List.length_append] at h1;simp only[List.flatten_cons,List.flatten_nil,List.append_nil] at h1;rw[Ô hi,Ë hx,Î hi (by omega),take_succ hx,List.flatten_append];have:å ((List.take i ls).flatten.length+x.length)=true:=Ö (by omega);rw[ĝ this];simp
  ·try dsimp only
   unfold ï;rw[à];simp
 unfold í iY;refine ń (fun x:Int×Int=>∃i:Nat,i≤ls.length∧x=(((ls.take i).flatten.length:Int),(i:Int))) (fun x=>ls.length-x.2.toNat) ?_ ⟨0,by omega,rfl⟩;rintro x ⟨i,hi,rfl⟩;rcases Nat.lt_or_ge i ls.length with h2|h2
 ·refine .inr ⟨(((ls.take (i+1)).flatten.length:Int),(i:Int)+1),⟨i+1,h2,by simp⟩,by simp; omega,fun kn=>?_⟩;obtain⟨x,hx⟩:∃x,ls[i]?=some x:=⟨_,cI h2⟩;have h1:=abz ls (i+1);rw[take_succ hx,ft,cN] at h1;simp only[fY,gd,dH] at h1
  try dsimp only
  unfold ĸ;rw[Ô h2,Ë hx,á]
  have e1:(((List.take i ls).flatten.length:Int)+(x.length:Int))=((List.take i ls).flatten.length+x.length:Nat):=by omega
  rw[e1,hk _ (by omega)]
  have:ilt ((((List.take i ls).flatten.length+x.length:Nat)):Int) 0=false:=by simp[ilt]; omega
  rw[Ð this,Î h2 (by omega),take_succ hx];simp
 ·refine .inl fun kn=>?_
  obtain rfl:i=ls.length:=by omega
  try dsimp only
  unfold ĸ;rw[à,List.take_length];have e2:ilt ((ls.flatten.length:Nat):Int) 0=false:=decide_eq_false (by omega);dsimp only;rw[Ð e2,Int.sub_zero,hk _ (by omega)];rcases Nat.eq_zero_or_pos ls.flatten.length with h0|h0
  ·have:igt (ls.flatten.length:Int) 0=false:=decide_eq_false (by omega);rw[Ð this];exact second
  ·have:igt (ls.flatten.length:Int) 0=true:=decide_eq_true (by omega);rw[Ó this]
   have:((ilt (0:Int) (ls.flatten.length:Int))&&(å (Int.toNat (ls.flatten.length:Int))))=true:=by
    rw[dl,Ö (by omega),gF];exact decide_eq_true (by omega)
   rw[ĝ this];have:ile 0 (þ (List.replicate (Int.toNat (ls.flatten.length:Int)) (0:Int)))=true:=decide_eq_true (Int.natCast_nonneg _);rw[ĝ this];exact second
def onP (day:Int) (ids:List Int):List (Int×Int):=ids.map fun id=>(id,day)
def ah6 {day:Int} {ls:List (List Int)} (hl:ls.length≤1000000) (hf:ls.flatten.length≤1000000):Hg day ls=some (onP day ls.flatten):=by
 unfold Hg Pe;rw[oU hl hf,À];refine ð ls.flatten (fun i=>onP day (ls.flatten.take i)) _ rfl (fun i x hi hx kn=>?_) (fun kn=>?_)
 ·try dsimp only
  unfold qH;rw[Ô hi,Ë hx,Î hi (by omega),take_succ hx];have:å (List.length (onP day (ls.flatten.take i))+List.length ([(x,day)]))=true:=Ö (by simp[onP]; omega);rw[ĝ this];simp[onP]
 ·try dsimp only
  unfold qH;rw[à,List.take_length]
def alb {l:List Int} (hl:l.length≤100000) (m:Int):Nf l m=some (lM l&&decide ((l.length:Int)≤m)):=by
 unfold Nf WM;rw[acm hl (by simp),À]
 have e0:lM []=true:=by decide
 unfold Rw;rw[e0,á]
 cases lM l<;>rfl
def ano (n:Int):Hj n=some (HO n):=by
 unfold Hj Pj HO inP;rw[Ĥ]
 by_cases h:0≤n
 ·rw[if_pos (by simpa[ige] using h)]; simp[h]
 ·rw[if_neg (by simpa[ige] using h)]; simp[h]
def alR {ρ α:Type} (l:List α) (i:Int) (f:α→Option ρ):ã ((ile (0:Int) i)&&(ilt i (þ l))) (ĺ l (Int.toNat i) f)=ü l i f:=by
 unfold ü
 by_cases h0:0≤i
 ·by_cases h1:i<l.length
  ·have e:((ile (0:Int) i)&&(ilt i (þ l)))=true:=by simp[ile,ilt,h0,h1]
   rw[ĝ e];simp only[h0,decide_true];unfold ĺ;rfl
  ·have e:((ile (0:Int) i)&&(ilt i (þ l)))=false:=by simp[ile,ilt,h1]
   rw[e];simp only[h0,decide_true];rw[fH (by omega)];rfl
 ·have e:((ile (0:Int) i)&&(ilt i (þ l)))=false:=by simp[ile,ilt,h0]
  rw[e];simp only[h0,decide_false];rfl
def anx {ρ:Type} (ns:List (Int×Int)) (n:Int):@uP ρ ns n=@ą ρ n ns:=by
 funext v0 v1 v2 v3 v4 v5 v6 v7 kn k0 k1;unfold uP ą;rw[alR]
def aeP (B:Þ) (ns:List (Int×Int)) (s:Int×Int):Int×Int:=ns.foldl (fun s n=>(s.1+(ivR B n).1,s.2+(ivR B n).2)) s
def pileR (B:Þ) (f:Int×Int) (ns:List (Int×Int)):Int×Int:=aeP B ns (((ns.length:Int)-1)*f.1,((ns.length:Int)-1)*f.2)
def aom (b:Þ) (day:Int) (ids:List Int):(Int×Int)×Int :=
 if ç b≠0 then((0,0),ç b) else if ids.length=0∨lM ids=false∨HO day=false then((0,0),1) else
 if (ý b (onP day ids)).2≠0 then((0,0),(ý b (onP day ids)).2) else(pileR (ý b (onP day ids)).1 b.1 (onP day ids),0)
def acx (B:Þ) (x y:List (Int×Int)) (s:Int×Int):aeP B (x++y) s=aeP B y (aeP B x s):=by unfold aeP; rw[List.foldl_append]
def ah2 {B:Þ} (h:ahO B):∀(ns:List (Int×Int)) (s:Int×Int) (m:Int),-m≤s.1∧s.1≤m→-m≤s.2∧s.2≤m →
 (-(m+ns.length*9007199254740992)≤(aeP B ns s).1∧(aeP B ns s).1≤m+ns.length*9007199254740992)∧(-(m+ns.length*9007199254740992)≤(aeP B ns s).2∧(aeP B ns s).2≤m+ns.length*9007199254740992)
 |[],s,m,h1,h2=>by unfold aeP; simp; omega
 |n::t,s,m,h1,h2=>by
  have b1:=vR h (ŝ B n) (Ĩ B);have b2:=vR h (Ĩ B) (ŝ B n);have:=ah2 h t (s.1+(ivR B n).1,s.2+(ivR B n).2) (m+9007199254740992) (by unfold ivR; dsimp only; omega) (by unfold ivR; dsimp only; omega);show(-(m+((n::t).length:Nat)*9007199254740992)≤(aeP B t _).1∧_)∧_;unfold aeP at this ⊢;simp only[List.foldl_cons,List.length_cons];push_cast;omega
def aol {b:Þ} (hI:In b) (day:Int) {ids:List Int} (hl:ids.length≤1000):Ng b day ids=some (aom b day ids):=by
 unfold Ng W0 aom;rw[i6 hI.size hI.num,À,alb (by omega),À,ano,À,á]
 by_cases hc:ç b=0
 ·rw[Ð (by simp[ine,hc]),if_neg (show ¬(ç b≠0) from fun h=>h hc)]
  by_cases h0:ids.length=0
  ·rw[Ó (by simp[ieq,h0]),if_pos (.inl h0)]
  ·rw[Ð (beq_eq_false_iff_ne.2 (by omega))]
   by_cases h1:lM ids=true
   ·have hp:=(D7 ids).1 h1
    have e1:(lM ids&&decide ((ids.length:Int)≤6))=true:=by rw[h1]; simp; omega
    rw[e1,Ð (by rfl)]
    by_cases h2:HO day=true
    ·have hg:=(ë b).1 hc;rw[Ð (by rw[h2]; rfl),if_neg (by simp[h0,h1,h2]),ah6 (by simp) (by simp; omega),À]
     have hlen:(onP day ids).length=ids.length:=by simp[onP]
     rw[show([ids]:List (List Int)).flatten=ids by simp,anx,←i6 hI.size hI.num];refine(qj hI (ns:=onP day ids) (by omega) (fun e=>some (((0,0):Int×Int),e)) (fun e he=>by rw[Ó (by simp[ine,he])]) (fun z he=>by rw[Ó (by simp[ine,he])]) (fun _ _ _=>rfl)).trans ?_
     split
     ·rfl
     ·rename_i e;have hr:=(kO hI (by simpa using e)).1;have hf:=hg.film;dsimp only;generalize (ý b (onP day ids)).1=B at hr ⊢
      have hm:∀x:Int,0≤x→x≤1000000→0≤((ids.length:Int)-1)*x∧((ids.length:Int)-1)*x≤10000000:=by
       intro x h0 h1;have:((ids.length:Int)-1)*x≤5*1000000:=fm (by omega) h1 h0 (by omega);exact⟨fM (by omega) h0,by omega⟩
      have m1:=hm b.1.1 (by omega) (by omega);have m2:=hm b.1.2 (by omega) (by omega);rw[Õ (by omega) (by omega),Õ (by omega) (by omega),Õ (by omega) (by omega),vC,show((((Ê B).length:Int)+1,Ý B):Sys)=DR B from rfl];unfold pileR;rw[hlen];refine ð (onP day ids) (fun i=>aeP B ((onP day ids).take i) (((ids.length:Int)-1)*b.1.1,((ids.length:Int)-1)*b.1.2)) _ rfl (fun i n hi hn kn=>?_) (fun kn=>?_)
      ·try dsimp only
       unfold uO;have b1:=vR hr (ŝ B n) (Ĩ B);have b2:=vR hr (Ĩ B) (ŝ B n);have bs:=ah2 hr ((onP day ids).take i) (((ids.length:Int)-1)*b.1.1,((ids.length:Int)-1)*b.1.2) 10000000 (by dsimp only; omega) (by dsimp only; omega)
       have bl:(((onP day ids).take i).length:Int)≤6:=by rw[cZ]; omega
       rw[Ô hi,Ë hn,ow hr,À,take_succ hn,acx];generalize aeP B ((onP day ids).take i) (((ids.length:Int)-1)*b.1.1,((ids.length:Int)-1)*b.1.2)=s at bs ⊢;unfold ivR;dsimp only;rw[Õ (by omega) (by omega),Õ (by omega) (by omega),Î hi (by omega)];rfl
      ·try dsimp only
       unfold uO;rw[à,List.take_length]
    ·have h2':HO day=false:=by simpa using h2
     rw[h2',Ó (by rfl),if_pos (.inr (.inr rfl))]
   ·have h1':lM ids=false:=by simpa using h1
    rw[h1',Ó (by rfl),if_pos (.inr (.inl rfl))]
 ·rw[Ó (by simp[ine,hc]),if_pos hc]
def pH {α:Type} (p:α→Bool) (l:List α) (i:Nat):((l.take i).filter p).length≤l.length:=by
 have h1:=dA p (l.take i);rw[cZ] at h1;omega
def Uf (x y:Int) (g:Bool):∀m:List (Int×Bool),sv (k:=tI) (v:=.bool) x (MW (k:=tI) (v:=.bool) y g m)=if x=y then some g else sv (k:=tI) (v:=.bool) x m
 |[]=>by
  unfold MW sv kq sv
  by_cases h:x=y<;>simp[h]
 |e::m=>by
  unfold MW
  by_cases h:y=e.1
  ·have:kq tI y e.1=true:=by simp[kq,h]
   rw[this]
   try dsimp only
   unfold sv kq
   by_cases h2:x=y
   ·simp[h2]
   ·have:¬x=e.1:=fun h3=>h2 (h3.trans h.symm);simp[h2,this]
  ·have:kq tI y e.1=false:=by simp[kq,h]
   rw[this]
   try dsimp only
   have ih:=Uf x y g m;unfold sv
   by_cases h2:x=e.1
   ·have:kq tI x e.1=true:=by simp[kq,h2]
    rw[this];have:¬x=y:=fun h3=>h (h3.symm.trans h2);simp[this]
   ·have:kq tI x e.1=false:=by simp[kq,h2]
    rw[this];exact ih
def Rz (l:List Int):List (Int×Bool):=l.foldl (fun m x=>MW (k:=tI) (v:=.bool) x true m) []
def xb (l:List Int) (x:Int):Rz (l++[x])=MW (k:=tI) (v:=.bool) x true (Rz l):=by unfold Rz; rw[List.foldl_append]; rfl
def ZP (x:Int):∀(l:List Int) (m:List (Int×Bool)),sv (k:=tI) (v:=.bool) x (l.foldl (fun m x=>MW (k:=tI) (v:=.bool) x true m) m)=if l.contains x then some true else sv (k:=tI) (v:=.bool) x m
 |[],m=>by simp
 |y::l,m=>by
  rw[fR,ZP x l,Uf]
  by_cases h:x=y
  ·subst h; simp
  ·simp[h]
def ZN (l:List Int) (x:Int):sv (k:=tI) (v:=.bool) x (Rz l)=if l.contains x then some true else none:=ZP x l []
def DX (b:Þ) (s:Int×Int):List Int:=if s.1=3 then(match b.2.2.2.2.1[s.2.toNat]? with|some c=>c.2.2.1++c.2.2.2.1|none=>[]) else(match b.2.1[s.2.toNat]? with|some g=>[g.1]|none=>[])
def QZ (b:Þ) (ss looks:List (Int×Int)):List Int:=ss.flatMap (DX b)++looks.map fun n=>n.1
def Hw (ss:List (Int×Int)):List Int:=(ss.filter fun s=>s.1==3).map fun s=>s.2
def DE (w:List Int):Nat→List Cmp→List Cmp
 |_,[]=>[]
 |i,c::t=>if w.contains (i:Int) then c::DE w (i+1) t else DE w (i+1) t
def cutP (b:Þ) (ss looks:List (Int×Int)):Þ :=
 (b.1,b.2.1.filter fun g=>(QZ b ss looks).contains g.1,b.2.2.1.filter fun u=>(QZ b ss looks).contains u.1,b.2.2.2.1.filter fun l=>(QZ b ss looks).contains l.1,DE (Hw ss) 0 b.2.2.2.2.1,looks)
def aoh (b:Þ) (s:Int×Int):Prop:=((s.1=1∨s.1=2)∧0≤s.2∧s.2<b.2.1.length)∨(s.1=3∧0≤s.2∧s.2<b.2.2.2.2.1.length)
def UL (w:List Int) (c:Cmp):∀(l:List Cmp) (i:Nat),DE w i (l++[c])=DE w i l++if w.contains ((i+l.length:Nat):Int) then[c] else[]
 |[],i=>by simp only[fT,DE,dk,fq]
 |a::l,i=>by
  have e:((i+1+l.length:Nat):Int)=((i+(l.length+1):Nat):Int):=by congr 1; omega
  simp only[eS,DE,UL w c l (i+1),cX,e]
  split<;>rfl
def Qv (w:List Int):∀(l:List Cmp) (i:Nat),(DE w i l).length≤l.length
 |[],i=>by simp[DE]
 |a::l,i=>by
  have:=Qv w l (i+1);simp only[DE]
  split<;>simp only[cX]<;>omega
def yY {ρ:Type} (x:Int) (l:List Int) (f:Bool→Option ρ) (g:Option ρ):YH (k:=tI) (v:=.bool) x (Rz l) f g=if l.contains x then f true else g:=by
 unfold YH;rw[ZN]
 by_cases h:l.contains x=true
 ·rw[if_pos h,if_pos h]
 ·rw[if_neg h,if_neg h]
section
variable {ρ:Type}
def cut_L3 (l:List (Int×Int)) (hl:l.length≤1000) (ids:List Int) (K:List (Int×Int)→Option ρ):Ò (fun(v47:(Val (.pair tI (.slice Â)))) kk50=>sS l (Ú l) (Rz ids) v47.1 v47.2 (fun u48 u49=>kk50 (u48,u49)) K) ((0:Int),[])=K (l.filter fun u=>ids.contains u.1):=by
 refine ð l (fun i=>(l.take i).filter fun u=>ids.contains u.1) _ rfl (fun i a hi ha kn=>?_) (fun kn=>?_)
 ·try dsimp only
  unfold sS;have h1:=pH (fun u:Int×Int=>ids.contains u.1) l i;rw[Ô hi,Ë ha,yY,take_succ ha,List.filter_append]
  by_cases h:ids.contains a.1=true
  ·rw[if_pos h,ğ,ĝ (Ö (by simp only[dC]; omega)),Î hi (by omega)];simp only[dN,dU,h,if_pos]
  ·rw[if_neg h,Î hi (by omega)];simp only[dN,dU,h,if_neg,dg,not_false_eq_true,dH]
 ·try dsimp only
  unfold sS;rw[à,List.take_length]
def cut_L4 (l:List Lv) (hl:l.length≤1000) (ids:List Int) (K:List Lv→Option ρ):Ò (fun(v47:(Val (.pair tI (.slice ō)))) kk50=>sR l (Ú l) (Rz ids) v47.1 v47.2 (fun u48 u49=>kk50 (u48,u49)) K) ((0:Int),[])=K (l.filter fun u=>ids.contains u.1):=by
 refine ð l (fun i=>(l.take i).filter fun u=>ids.contains u.1) _ rfl (fun i a hi ha kn=>?_) (fun kn=>?_)
 ·try dsimp only
  unfold sR;have h1:=pH (fun u:Lv=>ids.contains u.1) l i;rw[Ô hi,Ë ha,yY,take_succ ha,List.filter_append]
  by_cases h:ids.contains a.1=true
  ·rw[if_pos h,ğ,ĝ (Ö (by simp only[dC]; omega)),Î hi (by omega)];simp only[dN,dU,h,if_pos]
  ·rw[if_neg h,Î hi (by omega)];simp only[dN,dU,h,if_neg,dg,not_false_eq_true,dH]
 ·try dsimp only
  unfold sR;rw[à,List.take_length]
def cut_L5 (l:List Cmp) (hl:l.length≤1000) (hp:∀c∈l,c.2.2.1.length≤1000∧c.2.2.2.1.length≤1000) (w:List Int) (K:List Cmp→Option ρ):Ò (fun(v47:(Val (.pair tI (.slice Í)))) kk50=>sQ l (Ú l) (Rz w) v47.1 v47.2 (fun u48 u49=>kk50 (u48,u49)) K) ((0:Int),[])=K (DE w 0 l):=by
 refine ð l (fun i=>DE w 0 (l.take i)) _ rfl (fun i a hi ha kn=>?_) (fun kn=>?_)
 ·try dsimp only
  unfold sQ;have h1:=Qv w (l.take i) 0;have h2:=hp a (List.mem_of_getElem? ha)
  have e:(l.take i).length=i:=by rw[cZ]; omega
  rw[Ô hi,Ë ha,yY,take_succ ha,UL,e,dj]
  by_cases h:w.contains (i:Int)=true
  ·rw[if_pos h,if_pos h,ğ,ĝ (Ö (by omega)),ĝ (Ö (by omega)),ĝ (Ö (by simp only[dC]; omega)),Î hi (by omega)]
  ·rw[if_neg h,if_neg h,Î hi (by omega)];simp only[dH]
 ·try dsimp only
  unfold sQ;rw[à,List.take_length]
def cut_L2 (looks:List (Int×Int)) (hl:looks.length≤1000) (ids:List Int) (K:List (Int×Bool)→Option ρ):Ò (fun(v51:(Val (.pair tI (.map tI .bool)))) kk54=>sT looks (Ú looks) v51.1 v51.2 (fun u52 u53=>kk54 (u52,u53)) K) ((0:Int),Rz ids)=K (Rz (ids++looks.map fun n=>n.1)):=by
 refine ð looks (fun i=>Rz (ids++(looks.take i).map fun n=>n.1)) _ (by simp) (fun i a hi ha kn=>?_) (fun kn=>?_)
 ·try dsimp only
  unfold sT;rw[Ô hi,Ë ha,Î hi (by omega),take_succ ha,List.map_append,←List.append_assoc,List.map_singleton,xb]
 ·try dsimp only
  unfold sT;rw[à,List.take_length]
def cut_L1 (xs:List Int) (hl:xs.length≤10000) (ids:List Int) (K:List (Int×Bool)→Option ρ):Ò (fun(v13:(Val (.pair tI (.map tI .bool)))) kk16=>sU xs (Ú xs) v13.1 v13.2 (fun u14 u15=>kk16 (u14,u15)) K) ((0:Int),Rz ids)=K (Rz (ids++xs)):=by
 refine ð xs (fun i=>Rz (ids++xs.take i)) _ (by simp) (fun i a hi ha kn=>?_) (fun kn=>?_)
 ·try dsimp only
  unfold sU;rw[Ô hi,Ë ha,Î hi (by omega),take_succ ha,←List.append_assoc,xb]
 ·try dsimp only
  unfold sU;rw[à,List.take_length]
end
def jv {ρ α:Type} {l:List α} {i:Int} (h0:0≤i) {a:α} (h:l[i.toNat]?=some a) (f:α→Option ρ):ü l i f=f a:=by
 obtain⟨n,rfl⟩:=fP h0;exact Ë (by simpa using h) f
def cut_ok {b:Þ} (hs:Γ b) {ss looks:List (Int×Int)} (h1:ss.length≤1000) (h2:looks.length≤1000) (hv:∀s∈ss,aoh b s):QO b ss looks=some (cutP b ss looks):=by
 have g1:=hs.gauges; have g2:=hs.uses; have g3:=hs.loans; have g4:=hs.compares; have g5:=hs.looks;unfold QO aiR FI;refine ð ss (fun i=>(Rz ((ss.take i).flatMap (DX b)),Rz (Hw (ss.take i)))) _ rfl (fun i s hi ha kn=>?_) (fun kn=>?_)
 ·try dsimp only
  unfold zP;have hok:=hv s (List.mem_of_getElem? ha);rw[Ô hi,Ë ha,take_succ ha,List.flatMap_append]
  have e3:Hw (ss.take i++[s])=Hw (ss.take i)++if s.1=3 then[s.2] else[]:=by
   unfold Hw;rw[List.filter_append,List.map_append];congr 1
   by_cases h:s.1=3<;>simp[h]
  rw[e3];rcases hok with⟨hk,h0,h3⟩|⟨hk,h0,h3⟩
  ·have hg:b.2.1[s.2.toNat]?=some b.2.1[s.2.toNat]:=cI (by omega);generalize b.2.1[s.2.toNat]=g at hg
   have e1:DX b s=[g.1]:=by
    unfold DX;rw[if_neg (by omega),hg]
   have e2:List.flatMap (DX b) [s]=[g.1]:=by simp[e1]
   rw[Ð (decide_eq_false (by omega)),if_neg (by omega),dH,e2,xb];rcases hk with hk|hk
   ·rw[Ó (decide_eq_true hk),jv h0 hg,Î hi (by omega)]
   ·rw[Ð (decide_eq_false (by omega)),Ó (decide_eq_true hk),jv h0 hg,Î hi (by omega)]
  ·have hc:b.2.2.2.2.1[s.2.toNat]?=some b.2.2.2.2.1[s.2.toNat]:=cI (by omega);have hp:=hs.piles b.2.2.2.2.1[s.2.toNat] (fg _);generalize b.2.2.2.2.1[s.2.toNat]=c at hc hp
   have e1:DX b s=c.2.2.1++c.2.2.2.1:=by
    unfold DX;rw[if_pos hk,hc]
   have e2:List.flatMap (DX b) [s]=c.2.2.1++c.2.2.2.1:=by simp[e1]
   rw[Ð (decide_eq_false (by omega)),Ð (decide_eq_false (by omega)),Ð (decide_eq_false (by omega)),ĝ (decide_eq_true hk),if_pos hk,e2,jv h0 hc,jv h0 hc,oU (by simp) (by simp; omega),À];rw[show([c.2.2.1,c.2.2.2.1]:List (List Int)).flatten=c.2.2.1++c.2.2.2.1 by simp];refine(cut_L1 (c.2.2.1++c.2.2.2.1) (by simp; omega) _ _).trans ?_;rw[xb,Î hi (by omega)]
 ·try dsimp only
  unfold zP;rw[à];dsimp only;rw[List.take_length];refine(cut_L2 looks h2 _ _).trans ?_;rw[show(ss.flatMap (DX b)++looks.map fun n=>n.1)=QZ b ss looks from rfl];unfold zX
  try dsimp only
  rw[ĝ (Ö (by omega)),À]
  have ek:(List.filter (fun g=>(sv (k:=tI) (v:=.bool) g.1 (Rz (QZ b ss looks))).getD false) b.2.1)=b.2.1.filter fun g=>(QZ b ss looks).contains g.1:=by
   refine List.filter_congr fun g _=>?_;rw[ZN]
   cases(QZ b ss looks).contains g.1<;>rfl
  rw[ek];unfold m5;dsimp only;refine(cut_L3 b.2.2.1 g2 _ _).trans ?_;refine(cut_L4 b.2.2.2.1 g3 _ _).trans ?_;refine(cut_L5 b.2.2.2.2.1 g4 hs.piles _ _).trans ?_;rfl
def aie {α:Type} [DecidableEq α] {l m:List α} (hl:l.length=m.length) (h:Ĵ (fun i a=>if m[i]?=some a then none else some false) 0 l=none):l=m:=by
 have:=iG.1 h;refine List.ext_getElem hl fun i h1 h2=>?_;have h3:=this i l[i] (cI h1);rw[dj] at h3
 split at h3
 ·rename_i h4;rw[cI h2] at h4;exact(Option.some.inj h4).symm
 ·cases h3
def aid {α:Type} [DecidableEq α] {l m:List α} {b:Bool} (h:Ĵ (fun i a=>if m[i]?=some a then none else some false) 0 l=some b):b=false∧l≠m:=by
 constructor
 ·have:∀(k:Nat) (x:List α) (b:Bool),Ĵ (fun i a=>if m[i]?=some a then none else some false) k x=some b→b=false:=by
   intro k x
   induction x generalizing k with
   |nil=>intro b h; cases h
   |cons a t ih =>
    intro b h;unfold Ĵ at h
    split at h
    ·rename_i c hc
     split at hc
     ·cases hc
     ·cases hc; cases h; rfl
    ·exact ih _ _ h
  exact this _ _ _ h
 ·intro e;subst e;rw[iG.2 fun j a ha=>by rw[dj,if_pos ha]] at h;cases h
instance dec1:DecidableEq ((Int×Int)×Int):=fun a b=>instDecidableEqProd a b
instance dec2:DecidableEq ((Int×Int)×((Int×Int)×Int)):=fun a b=>instDecidableEqProd a b
instance dec3:DecidableEq (Int×(Int×Int)×((Int×Int)×Int)):=fun a b=>instDecidableEqProd a b
instance dec4:DecidableEq (Int×Int×(Int×Int)×((Int×Int)×Int)):=fun a b=>instDecidableEqProd a b
instance decG:DecidableEq ê:=fun a b=>instDecidableEqProd a b
instance decL:DecidableEq Lv:=fun a b=>instDecidableEqProd a b
instance decI4:DecidableEq (Int×(Int×(Int×Int))):=fun a b=>instDecidableEqProd a b
instance decI5:DecidableEq (List Int×Int×(Int×(Int×Int))):=fun a b=>instDecidableEqProd a b
instance decI6:DecidableEq (List Int×List Int×Int×(Int×(Int×Int))):=fun a b=>instDecidableEqProd a b
instance decI7:DecidableEq (Int×List Int×List Int×Int×(Int×(Int×Int))):=fun a b=>instDecidableEqProd a b
instance decC:DecidableEq Cmp:=fun a b=>instDecidableEqProd a b
def VV {α:Type} [DecidableEq α] (x:α) (l:List α):Bool:=l.any fun a=>decide (x=a)
def afh {α:Type} [DecidableEq α] {x:α} {l:List α}:VV x l=true↔x∈l:=by
 unfold VV;rw[List.any_eq_true];exact⟨fun⟨a,h1,h2⟩=>by rw[of_decide_eq_true h2]; exact h1,fun h=>⟨x,h,decide_eq_true rfl⟩⟩
def acW {α:Type} [DecidableEq α] (l:List α) (x:α):ige (match l.findIdx? (fun a=>decide (x=a)) with|some j=>(j:Int)|none=>-1) 0=VV x l:=by
 cases h:l.findIdx? (fun a=>decide (x=a)) with
 |none =>
  have:VV x l=false:=by
   cases hm:VV x l with
   |false=>rfl
   |true=>have:=eo.1 h x (afh.1 hm); simp at this
  rw[this];rfl
 |some j =>
  obtain⟨hj,hp,_⟩:=dI.1 h
  have:x∈l:=by rw[of_decide_eq_true hp]; exact fg _
  rw[afh.2 this];exact decide_eq_true (by dsimp only; omega)
def aiM {ρ:Type} (o:Option Nat) (f:Int→Option ρ):(match o with|some j=>f (j:Int)|none=>f (-1))=f (match o with|some j=>(j:Int)|none=>-1):=by cases o<;>rfl
def ack {l:List (Int×Int)} (hl:l.length≤1000000) (x:Int×Int):ę l x=some (VV x l):=by
 unfold ę ŭ ο ι
 have e:Ò (fun(v5:Int) kk7=>ė l (Ú l) x.1 x.2 v5 (fun u6=>kk7 u6) (fun z3=>some z3) (fun _=>some (-1:Int))) (0:Int)=some (match l.findIdx? (fun a=>decide (x=a)) with|some j=>(j:Int)|none=>-1):=by
  refine(δ l (fun a=>decide (x=a)) (fun z=>some z) (some (-1)) (fun i a hi ha kn=>?_) (fun kn=>?_)).trans (aiM _ some)
  ·try dsimp only
   unfold ė
   have e:((Ŋ x.1 a.1)&&((Ŋ x.2 a.2)&&true))=decide (x=a):=by
    rw[dJ]; simp[Ŋ,gO]
   rw[Ô hi,Ë ha,Î hi (by omega),Ĥ,e]
  ·try dsimp only
   unfold ė;rw[à]
 rw[e,À];exact congrArg some (acW l x)
def YE {l:List Lv} (hl:l.length≤1000000) (x:Lv):Č l x=some (VV x l):=by
 unfold Č ś Ž Ż
 have e:Ò (fun(v5:Int) kk7=>ċ l (Ú l) x.1 x.2.1.1 x.2.1.2 x.2.2 v5 (fun u6=>kk7 u6) (fun z3=>some z3) (fun _=>some (-1:Int))) (0:Int)=some (match l.findIdx? (fun a=>decide (x=a)) with|some j=>(j:Int)|none=>-1):=by
  refine(δ l (fun a=>decide (x=a)) (fun z=>some z) (some (-1)) (fun i a hi ha kn=>?_) (fun kn=>?_)).trans (aiM _ some)
  ·try dsimp only
   unfold ċ
   have e:((Ŋ x.1 a.1)&&((Ŋ x.2.1.1 a.2.1.1)&&((Ŋ x.2.1.2 a.2.1.2)&&((Ŋ x.2.2 a.2.2)&&true))))=decide (x=a):=by
    rw[dJ]; simp[Ŋ,gO,and_assoc]
   rw[Ô hi,Ë ha,Î hi (by omega),Ĥ,e]
  ·try dsimp only
   unfold ċ;rw[à]
 rw[e,À];exact congrArg some (acW l x)
def acl {l:List ê} (hl:l.length≤1000000) (x:ê):Ġ l x=some (VV x l):=by
 unfold Ġ ŋ ū ũ
 have e:Ò (fun(v5:Int) kk7=>ă l (Ú l) x.1 x.2.1 x.2.2.1 x.2.2.2.1.1 x.2.2.2.1.2 x.2.2.2.2.1.1 x.2.2.2.2.1.2 x.2.2.2.2.2 v5 (fun u6=>kk7 u6) (fun z3=>some z3) (fun _=>some (-1:Int))) (0:Int)=some (match l.findIdx? (fun a=>decide (x=a)) with|some j=>(j:Int)|none=>-1):=by
  refine(δ l (fun a=>decide (x=a)) (fun z=>some z) (some (-1)) (fun i a hi ha kn=>?_) (fun kn=>?_)).trans (aiM _ some)
  ·try dsimp only
   unfold ă
   have e:((Ŋ x.1 a.1)&&((Ŋ x.2.1 a.2.1)&&((Ŋ x.2.2.1 a.2.2.1)&&((Ŋ x.2.2.2.1.1 a.2.2.2.1.1)&&((Ŋ x.2.2.2.1.2 a.2.2.2.1.2)&&((Ŋ x.2.2.2.2.1.1 a.2.2.2.2.1.1)&&((Ŋ x.2.2.2.2.1.2 a.2.2.2.2.1.2)&&((Ŋ x.2.2.2.2.2 a.2.2.2.2.2)&&true))))))))=decide (x=a):=by
    rw[dJ]; simp[Ŋ,gO,and_assoc]
   rw[Ô hi,Ë ha,Î hi (by omega),Ĥ,e]
  ·try dsimp only
   unfold ă;rw[à]
 rw[e,À];exact congrArg some (acW l x)
def ajk (b:Þ):List Int:=b.2.1.map fun g=>g.1
def lX {α:Type} [DecidableEq α] (x y:List α) (w:α→Bool):Bool:=x.all fun a=>!w a||VV a y
def alt (s b:Þ):Bool :=
 lX s.2.2.2.2.1 b.2.2.2.2.1 (fun _=>true)&&(decide (s.1=b.1)&&(lX s.2.1 b.2.1 (fun _=>true)&&(lX s.2.2.1 b.2.2.1 (fun u=>(ajk s).contains u.1)&&(lX b.2.2.1 s.2.2.1 (fun u=>(ajk s).contains u.1) &&
  (lX s.2.2.2.1 b.2.2.2.1 (fun u=>(ajk s).contains u.1)&&lX b.2.2.2.1 s.2.2.2.1 (fun u=>(ajk s).contains u.1))))))
section
variable {ρ:Type}
def JX {α:Type} [DecidableEq α] (x y:List α) (w:α→Bool) (X Y KF:Option ρ) {f:Int→(Int→Option ρ)→Option ρ}
 (h:∀(i:Nat) (a:α),i<x.length→x[i]?=some a→∀kn,f i kn=if !(!w a||VV a y) then(ifb (!(ige (i:Int) 0)) X KF) else kn ((i:Int)+1))
 (hn:∀kn,f x.length kn=Y):Ò f 0=if lX x y w then Y else KF:=by
 refine(Ļ x (fun a=>!(!w a||VV a y)) (fun z=>ifb (!(ige z 0)) X KF) KF Y (fun j=>by rw[show ige (j:Int) 0=true from decide_eq_true (by omega)]; rfl) h hn).trans ?_;unfold lX;rw[List.all_eq_not_any_not]
 cases x.any fun a=>!(!w a||VV a y)<;>rfl
def anB:@uG ρ=@mj ρ:=rfl
def UH {x y:List Int} (hl:x.length=y.length) (hx:x.length≤1000000) (k0:Bool→Option ρ) (K:Option ρ) :
 Ò (fun(v30:Int) kk32=>mj x y (Ú x) v30 (fun u31=>kk32 u31) k0 (fun _=>K)) (0:Int)=if x=y then K else k0 false:=by
 refine(kB x (fun i a=>if y[i]?=some a then none else some false) k0 K (fun i a hi ha kn=>?_) (fun kn=>?_)).trans ?_
 ·try dsimp only
  unfold mj;have hm:y[i]?=some y[i]:=List.getElem?_eq_getElem (by omega);rw[Ô hi,Ë ha,Ë hm,Î hi (by omega),hm,Ĥ]
  by_cases h:a=y[i]
  ·simp[ine,h]
  ·have h':¬y[i]=a:=fun e=>h e.symm;simp[ine,h,h']
 ·try dsimp only
  unfold mj;rw[à]
 ·cases h:Ĵ (fun i a=>if y[i]?=some a then none else some false) 0 x with
  |none=>rw[if_pos (aie hl h)]
  |some b =>
   obtain⟨h1,h2⟩:=aid h;rw[if_neg h2,h1]
def aif {l:List Cmp} (hl:l.length≤1000) (c:Cmp) (hA:c.2.2.1.length≤1000) (hB:c.2.2.2.1.length≤1000) (k0:Int→Option ρ) (K1 KF:Option ρ) (hk:∀j:Nat,k0 (j:Int)=K1) :
 Ò (fun(v41:Int) kk43=>pr l (Ú l) c.1 c.2.1 c.2.2.1 c.2.2.2.1 c.2.2.2.2.1 c.2.2.2.2.2.1 c.2.2.2.2.2.2.1 c.2.2.2.2.2.2.2 v41 (fun u42=>kk43 u42) k0 (fun _=>KF)) (0:Int)=if VV c l then K1 else KF:=by
 refine(Ļ l (fun d=>decide (c=d)) k0 K1 KF hk (fun i d hi hd kn=>?_) (fun kn=>?_)).trans rfl
 ·try dsimp only
  unfold pr
  have hsplit:(c=d)↔(c.1=d.1∧c.2.1=d.2.1∧c.2.2.2.2.1=d.2.2.2.2.1∧c.2.2.2.2.2.1=d.2.2.2.2.2.1∧(c.2.2.2.2.2.2.1=d.2.2.2.2.2.2.1∧c.2.2.2.2.2.2.2=d.2.2.2.2.2.2.2)∧c.2.2.1=d.2.2.1∧c.2.2.2.1=d.2.2.2.1):=by
   simp only[gO];constructor
   ·rintro⟨a1,a2,a3,a4,a5,a6,a7,a8⟩; exact⟨a1,a2,a5,a6,⟨a7,a8⟩,a3,a4⟩
   ·rintro⟨a1,a2,a5,a6,⟨a7,a8⟩,a3,a4⟩; exact⟨a1,a2,a3,a4,a5,a6,a7,a8⟩
  have hno:∀{P:Prop},¬P→(c=d→P)→(if decide (c=d)=true then k0 (i:Int) else kn ((i:Int)+1))=kn ((i:Int)+1):=fun h1 h2=>by
   rw[if_neg];intro h;exact h1 (h2 (of_decide_eq_true h))
  rw[Ô hi,Ë hd,Î hi (by omega)]
  by_cases a1:c.1=d.1
  case neg=>rw[hno a1 (fun e=>(hsplit.1 e).1),Ð (beq_eq_false_iff_ne.2 a1)]
  rw[Ó (beq_iff_eq.2 a1)]
  by_cases a2:c.2.1=d.2.1
  case neg=>rw[hno a2 (fun e=>(hsplit.1 e).2.1),Ð (beq_eq_false_iff_ne.2 a2)]
  rw[Ó (beq_iff_eq.2 a2)]
  by_cases a3:c.2.2.2.2.1=d.2.2.2.2.1
  case neg=>rw[hno a3 (fun e=>(hsplit.1 e).2.2.1),Ð (beq_eq_false_iff_ne.2 a3)]
  rw[Ó (beq_iff_eq.2 a3)]
  by_cases a4:c.2.2.2.2.2.1=d.2.2.2.2.2.1
  case neg=>rw[hno a4 (fun e=>(hsplit.1 e).2.2.2.1),Ð (beq_eq_false_iff_ne.2 a4)]
  rw[Ó (beq_iff_eq.2 a4)]
  by_cases a5:c.2.2.2.2.2.2.1=d.2.2.2.2.2.2.1∧c.2.2.2.2.2.2.2=d.2.2.2.2.2.2.2
  case neg=>rw[hno a5 (fun e=>(hsplit.1 e).2.2.2.2.1),Ð (by simp only[Ŋ,gF,Bool.and_eq_false_iff,decide_eq_false_iff_not]; exact Decidable.not_and_iff_or_not.1 a5)]
  rw[Ó (by simp[Ŋ,a5.1,a5.2]),á,á,á,á]
  have rest:∀X Y:Option ρ,(c.2.2.1=d.2.2.1)→(if decide (c=d)=true then k0 (i:Int) else kn ((i:Int)+1))=(if c.2.2.2.1=d.2.2.2.1 then k0 (i:Int) else kn ((i:Int)+1)):=by
   intro _ _ h
   by_cases g:c.2.2.2.1=d.2.2.2.1
   ·rw[if_pos (decide_eq_true (hsplit.2 ⟨a1,a2,a3,a4,a5,h,g⟩)),if_pos g]
   ·rw[if_neg g]; exact hno g (fun e=>(hsplit.1 e).2.2.2.2.2.2)
  by_cases l1:c.2.2.1.length=d.2.2.1.length
  case neg =>
   rw[hno l1 (fun e=>by rw[e]),Ó (bne_iff_ne.2 (by omega))]
  rw[Ð (by rw[l1]; exact bne_self_eq_false' _)];have e3:=UH (ρ:=ρ) l1 (by omega);rw[á] at e3;rw[e3]
  by_cases g1:c.2.2.1=d.2.2.1
  case neg=>rw[if_neg g1,é,hno g1 (fun e=>(hsplit.1 e).2.2.2.2.2.1)]
  rw[if_pos g1,rest none none g1]
  by_cases l2:c.2.2.2.1.length=d.2.2.2.1.length
  case neg =>
   rw[Ó (bne_iff_ne.2 (by omega)),if_neg (fun e=>l2 (by rw[e]))]
  rw[Ð (by rw[l2]; exact bne_self_eq_false' _),anB];have e4:=UH (ρ:=ρ) l2 (by omega);rw[á] at e4;rw[e4,é]
 ·try dsimp only
  unfold pr;rw[à]
def anA:@mi ρ=@ki ρ:=rfl
def anz:@ĕ ρ=@Ń ρ:=rfl
def aop {x y:List ê} (hx:x.length≤1000) (hy:y.length≤1000) (X Y KF:Option ρ):Ò (fun(v225:Int) kk227=>pq x (Ú x) y v225 (fun u226=>kk227 u226) (fun z=>ifb (!(ige z 0)) X KF) (fun _=>Y)) (0:Int)=if lX x y (fun _=>true) then Y else KF:=by
 refine JX x y (fun _=>true) X Y KF (fun i a hi ha kn=>?_) (fun kn=>?_)
 ·try dsimp only
  unfold pq;rw[Ô hi,Ë ha,acl (by omega),À,Î hi (by omega),Ĥ];simp
 ·try dsimp only
  unfold pq;rw[à]
def akM {x y:List (Int×Int)} (hx:x.length≤1000) (hy:y.length≤1000) (ids:List Int) (X Y KF:Option ρ):Ò (fun(v225:Int) kk227=>ki x (Ú x) (Rz ids) y v225 (fun u226=>kk227 u226) (fun z=>ifb (!(ige z 0)) X KF) (fun _=>Y)) (0:Int)=if lX x y (fun u=>ids.contains u.1) then Y else KF:=by
 refine JX x y (fun u=>ids.contains u.1) X Y KF (fun i a hi ha kn=>?_) (fun kn=>?_)
 ·try dsimp only
  unfold ki;rw[Ô hi,Ë ha,yY,ack (by omega),À]
  by_cases h:ids.contains a.1=true
  ·rw[if_pos h,ğ,Î hi (by omega),Ĥ,h];simp
  ·rw[if_neg h,Î hi (by omega)];have h':=Bool.not_eq_true _▸h;rw[h'];simp
 ·try dsimp only
  unfold ki;rw[à]
def akL {x y:List Lv} (hx:x.length≤1000) (hy:y.length≤1000) (ids:List Int) (X Y KF:Option ρ):Ò (fun(v225:Int) kk227=>Ń x (Ú x) (Rz ids) y v225 (fun u226=>kk227 u226) (fun z=>ifb (!(ige z 0)) X KF) (fun _=>Y)) (0:Int)=if lX x y (fun u=>ids.contains u.1) then Y else KF:=by
 refine JX x y (fun u=>ids.contains u.1) X Y KF (fun i a hi ha kn=>?_) (fun kn=>?_)
 ·try dsimp only
  unfold Ń;rw[Ô hi,Ë ha,yY,YE (by omega),À]
  by_cases h:ids.contains a.1=true
  ·rw[if_pos h,ğ,Î hi (by omega),Ĥ,h];simp
  ·rw[if_neg h,Î hi (by omega)];have h':=Bool.not_eq_true _▸h;rw[h'];simp
 ·try dsimp only
  unfold Ń;rw[à]
def aoo {x y:List Lv} (hx:x.length≤1000) (hy:y.length≤1000) (ids:List Int) (k:Bool→Option ρ):Ò (fun(v225:Int) kk227=>Ń x (Ú x) (Rz ids) y v225 (fun u226=>kk227 u226) (fun z=>k (!(ige z 0))) (fun _=>k true)) (0:Int)=k (lX x y (fun u=>ids.contains u.1)):=by
 have h:=akL (ρ:=ρ) hx hy ids (k true) (k true) (k false)
 have e:(fun z:Int=>ifb (!(ige z 0)) (k true) (k false))=fun z=>k (!(ige z 0)):=by
  funext z
  cases(!(ige z 0))<;>rfl
 rw[e] at h;rw[h]
 cases lX x y (fun u=>ids.contains u.1)<;>rfl
def aoq {x y:List Cmp} (hx:x.length≤1000) (hp:∀c∈x,c.2.2.1.length≤1000∧c.2.2.2.1.length≤1000) (hy:y.length≤1000) (K:Option Bool):Ò (fun(v228:Int) kk230=>pu x (Ú x) y v228 (fun u229=>kk230 u229) (fun z44=>some z44) (fun _=>K)) (0:Int)=if (x.all fun c=>VV c y)=true then K else some false:=by
 refine(Ļ x (fun c=>!VV c y) (fun _=>some false) (some false) K (fun _=>rfl) (fun i c hi hc kn=>?_) (fun kn=>?_)).trans ?_
 rotate_left
 ·try dsimp only
  unfold pu;rw[à]
 ·rw[List.all_eq_not_any_not]
  cases x.any fun c=>!VV c y<;>rfl
 ·try dsimp only
  unfold pu;have h:=hp c (List.mem_of_getElem? hc);rw[Ô hi,Ë hc];refine(aif hy c h.1 h.2 _ (kn ((i:Int)+1)) (some false) (fun j=>by rw[show ige (j:Int) 0=true from decide_eq_true (by omega),Î hi (by omega)]; rfl)).trans ?_
  cases VV c y<;>rfl
end
def part_ok {s b:Þ} (hs:Γ s) (hb:Γ b):Hf s b=some (alt s b):=by
 have g1:=hs.gauges; have g2:=hs.uses; have g3:=hs.loans; have g4:=hs.compares;have b1:=hb.gauges; have b2:=hb.uses; have b3:=hb.loans; have b4:=hb.compares;unfold Hf WN alt;rw[anA,anz];refine(ð s.2.1 (fun i=>Rz (ajk (s.1,s.2.1.take i,s.2.2))) (some _) rfl (fun i g hi hg kn=>?_) (fun kn=>?_))
 ·try dsimp only
  unfold uH;rw[Ô hi,Ë hg,Î hi (by omega)];unfold ajk;dsimp only;rw[take_succ hg,List.map_append,List.map_singleton,xb]
 ·try dsimp only
  unfold uH;rw[à,List.take_length]
  try dsimp only
  rw[show ajk (s.1,s.2.1,s.2.2)=ajk s from rfl];refine(aoq g4 hs.piles b4 _).trans ?_;rw[show(lX s.2.2.2.2.1 b.2.2.2.2.1 fun _=>true)=s.2.2.2.2.1.all fun c=>VV c b.2.2.2.2.1 from rfl]
  by_cases hc:(s.2.2.2.2.1.all fun c=>VV c b.2.2.2.2.1)=true
  case neg=>rw[if_neg hc,er.2 hc]; rfl
  rw[if_pos hc,hc,dQ]
  by_cases hf:s.1=b.1
  case neg =>
   have ef:(Ŋ s.1.1 b.1.1&&(Ŋ s.1.2 b.1.2&&true))=false:=by
    rw[gO] at hf;simp[Ŋ];omega
   rw[ef,é,decide_eq_false hf];rfl
  have ef:(Ŋ s.1.1 b.1.1&&(Ŋ s.1.2 b.1.2&&true))=true:=by simp[Ŋ,hf]
  rw[ef,ğ,decide_eq_true hf,dQ];refine(aop g1 b1 _ _ _).trans ?_;cases lX s.2.1 b.2.1 fun _=>true
  case false=>rfl
  rw[if_pos rfl,dQ];refine(akM g2 b2 _ _ _ _).trans ?_;cases lX s.2.2.1 b.2.2.1 fun u=>(ajk s).contains u.1
  case false=>rfl
  rw[if_pos rfl,dQ];refine(akM b2 g2 _ _ _ _).trans ?_;cases lX b.2.2.1 s.2.2.1 fun u=>(ajk s).contains u.1
  case false=>rfl
  rw[if_pos rfl,dQ];refine(akL g3 b3 _ _ _ _).trans ?_;cases lX s.2.2.2.1 b.2.2.2.1 fun u=>(ajk s).contains u.1
  case false=>rfl
  rw[if_pos rfl,dQ];exact aoo b3 g3 _ some
def wQ (x:List Int) (y:List Int) (l:Lk):List Int:=if gv x l.2.1=ľ then y else y.set l.1.toNat (min (gv y l.1) (l.2.2+gv x l.2.1))
def abG (L:List Lk) (N:Nat) (x:List Int):List Int:=L.foldl (wQ x) (List.replicate N ľ)
def exL (L:List Lk) (N:Nat) (to:Int):Nat→List Int
 |0=>(List.replicate N ľ).set to.toNat 0
 |k+1=>abG L N (exL L N to k)
def nX (L:List Lk) (N:Nat) (to:Int) (most:Nat):List (List Int):=(List.range (most+1)).map (exL L N to)
section
variable {L:List Lk} {N:Nat}
def U3 (x y:List Int) (l:Lk):(wQ x y l).length=y.length:=by unfold wQ; split<;>simp
def JI (x:List Int):∀(M:List Lk) (y:List Int),(M.foldl (wQ x) y).length=y.length
 |[],y=>rfl
 |l::M,y=>by rw[fR,JI x M,U3]
def ag0 (x:List Int):(abG L N x).length=N:=by unfold abG; rw[JI]; simp
def adV (to:Int) (k:Nat):(exL L N to k).length=N:=by
 cases k with
 |zero=>simp[exL]
 |succ k=>exact ag0 _
def Lim (B:Int) (x:List Int):Prop:=∀v:Int,gv x v≠ľ→-B≤gv x v∧gv x v≤B
def gv_out {x:List Int} {v:Int} (h:¬v.toNat<x.length):gv x v=0:=by
 unfold gv;rw[List.getElem?_eq_none (by omega)];rfl
def aja {B:Int} (hB:0≤B):Lim B (List.replicate N ľ):=by
 intro v hv
 by_cases h:v.toNat<N
 ·exfalso; apply hv;unfold gv;rw[List.getElem?_replicate,if_pos h];rfl
 ·rw[gv_out (by simpa using h)]; omega
def ai9 {B:Int} {y:List Int} (hy:Lim B y) {u:Int} (hu:0≤u) (hl:u.toNat<y.length) {a:Int} (ha:a≠ľ→-B≤a∧a≤B):Lim B (y.set u.toNat a):=by
 intro v hv
 by_cases h:v.toNat=u.toNat
 ·have:gv (y.set u.toNat a) v=a:=by
   unfold gv;rw[h,List.getElem?_set_self hl];rfl
  rw[this] at hv ⊢;exact ha hv
 ·have:gv (y.set u.toNat a) v=gv y v:=by
   unfold gv;rw[List.getElem?_set_ne (fun e=>h e.symm)]
  rw[this] at hv ⊢;exact hy v hv
def alH (hS:į L N) {B:Int} (hB:0≤B) (hB2:B≤1000000000000000000) {x y:List Int} (hx:Lim B x) (hy:Lim (B+4503599627370496) y) (hl:y.length=N) {l:Lk} (hm:l∈L):Lim (B+4503599627370496) (wQ x y l):=by
 unfold wQ
 split
 ·exact hy
 ·rename_i hf;have h1:=hS.inr l hm;have h2:=hS.most l hm;have h3:=hx _ hf;refine ai9 hy h1.1.1 (by omega) fun ha=>?_
  by_cases h4:gv y l.1=ľ
  ·rw[h4] at ha ⊢
   have:min ľ (l.2.2+gv x l.2.1)=l.2.2+gv x l.2.1:=by unfold ľ; omega
   rw[this]; omega
  ·have:=hy _ h4;omega
def afn (hS:į L N) {B:Int} (hB:0≤B) (hB2:B≤1000000000000000000) {x:List Int} (hx:Lim B x):∀(M:List Lk),(∀l∈M,l∈L)→∀y:List Int,y.length=N→Lim (B+4503599627370496) y→Lim (B+4503599627370496) (M.foldl (wQ x) y)
 |[],_,y,_,hy=>hy
 |l::M,hM,y,hl,hy=>by
  rw[fR];exact afn hS hB hB2 hx M (fun m hm=>hM m (by simp[hm])) _ (by rw[U3,hl]) (alH hS hB hB2 hx hy hl (hM l (by simp)))
def adK (hS:į L N) {to:Int} (ht:0≤to∧to<N):∀k:Nat,k≤200→Lim (k*4503599627370496) (exL L N to k)
 |0,_=>by
  unfold exL;exact ai9 (aja (by omega)) ht.1 (by simp; omega) (fun _=>by omega)
 |k+1,hk=>by
  have:=afn hS (B:=k*4503599627370496) (by omega) (by omega) (adK hS ht k (by omega)) L (fun _ h=>h) (List.replicate N ľ) (by simp) (aja (by omega));unfold exL abG
  have e:(((k+1:Nat):Int)*4503599627370496)=(k:Int)*4503599627370496+4503599627370496:=by push_cast; omega
  rw[e];exact this
def abD {ρ:Type} (hN:N≤1000) (K:List Int→Option ρ) {f:Int×List Int→(Int×List Int→Option ρ)→Option ρ}
 (hf:∀(v:Int×List Int) kk,f v kk=zR (N:Int) v.1 v.2 (fun u34 u35=>kk (u34,u35)) K):Ò f ((0:Int),List.replicate N (0:Int))=K (List.replicate N ľ):=by
 refine ð (List.replicate N (0:Int)) (fun i=>List.replicate i ľ++List.replicate (N-i) (0:Int)) _ (by simp) (fun i a hi ha kn=>?_) (fun kn=>?_)
 ·rw[hf];dsimp only;unfold zR;rw[List.length_replicate] at hi
  have hlen:(List.replicate i ľ++List.replicate (N-i) (0:Int)).length=N:=by simp; omega
  have e1:ilt (i:Int) (N:Int)=true:=decide_eq_true (by omega);rw[Ó e1,show þ (List.replicate i ľ++List.replicate (N-i) (0:Int))=(N:Int) by unfold þ; rw[hlen],Ě (by omega) (by omega),ka (by rw[hlen]; omega),Õ (by omega) (by omega)];congr 2;rw[Int.toNat_natCast];rw[List.set_append_right _ _ (by simp),List.length_replicate,Nat.sub_self];rw[show N-i=(N-(i+1))+1 by omega,List.replicate_succ,List.set_cons_zero,List.replicate_succ'];simp
 ·rw[hf];dsimp only;unfold zR;rw[List.length_replicate];have e1:ilt (N:Int) (N:Int)=false:=decide_eq_false (by omega);rw[Ð e1];simp
def okN (hN:N≤1000) {ρ:Type} (x:Option ρ):ã ((ile (0:Int) (N:Int))&&(å (Int.toNat (N:Int)))) x=x:=by
 rw[ĝ];rw[dl,Ö (by omega),gF];exact decide_eq_true (by omega)
def ai8 {ρ:Type} (hS:į L N) {B:Int} (hB:0≤B) (hB2:B≤1000000000000000000) {x:List Int} (hx:Lim B x) (hxl:x.length=N) (K:List Int→Option ρ) :
 Ò (fun(v20:(Val (.pair tI (.slice tI)))) kk23=>F2 x L (Ú L) v20.1 v20.2 (fun u21 u22=>kk23 (u21,u22)) K) ((0:Int),List.replicate N ľ)=K (abG L N x):=by
 have hl3:=hS.len;refine ð L (fun i=>(L.take i).foldl (wQ x) (List.replicate N ľ)) _ rfl (fun i l hi hl kn=>?_) (fun kn=>?_)
 ·try dsimp only
  unfold F2;have hm:=List.mem_of_getElem? hl;have h1:=hS.inr l hm;have h2:=hS.most l hm;rw[Ô hi,Ë hl,nN h1.2.1 (by omega),take_succ hl,List.foldl_append,Î hi (by omega)]
  have hlen:((L.take i).foldl (wQ x) (List.replicate N ľ)).length=N:=by rw[JI]; simp
  generalize (L.take i).foldl (wQ x) (List.replicate N ľ)=y at hlen ⊢
  by_cases hf:gv x l.2.1=ľ
  ·rw[Ð (by rw[hf]; rfl)];simp only[List.foldl_cons,List.foldl_nil];unfold wQ;rw[if_pos hf]
  ·have h3:=hx _ hf;rw[Ó (bne_iff_ne.2 hf),show þ y=(N:Int) by unfold þ; rw[hlen],Ě h1.1.1 h1.1.2,ka (by omega),nN h1.2.1 (by omega),Õ (by omega) (by omega),Ě h1.1.1 h1.1.2,ka (by omega),Î hi (by omega)];simp only[List.foldl_cons,List.foldl_nil];unfold wQ;rw[if_neg hf,vx]
 ·try dsimp only
  unfold F2;rw[à,List.take_length];rfl
def al3 {ρ:Type}:@W9 ρ=@zR ρ:=rfl
def kF (to:Int) (m:Nat):(nX L N to m).length=m+1:=by simp[nX]
def JH {to:Int} {m k:Nat} (hk:k≤m):(nX L N to m)[k]?=some (exL L N to k):=by
 unfold nX;rw[List.getElem?_map,List.getElem?_range (by omega)];rfl
def al2 (hS:į L N) {to:Int} (ht:0≤to∧to<N) {most:Nat} (hm:most≤100):zi ((N:Int),L) to (most:Int)=some (nX L N to most):=by
 have hN:=hS.n60
 unfold zi PA
 dsimp only;rw[okN (by omega),Int.toNat_natCast];refine(abD (by omega) _ (fun v kk=>by rw[á,List.length_replicate])).trans ?_;rw[show þ (List.replicate N ľ)=(N:Int) by simp[þ],Ě ht.1 ht.2,ka (by simp; omega)];refine ð (List.replicate most ()) (fun i=>nX L N to i) _ (by simp[nX,exL]) (fun i a hi ha kn=>?_) (fun kn=>?_)
 ·try dsimp only
  unfold MZ;rw[List.length_replicate] at hi;have e1:ilt (i:Int) (most:Int)=true:=decide_eq_true (by omega);rw[Ó e1,á,kF]
  have e2:(((i+1:Nat):Int)-1)=(i:Int):=by omega
  rw[e2,Õ (by omega) (by omega),show þ (nX L N to i)=((i+1:Nat):Int) by unfold þ; rw[kF],Ě (by omega) (by omega),Int.toNat_natCast,jo (JH (Nat.le_refl i)),okN (by omega),Int.toNat_natCast];rw[al3];refine(abD (by omega) _ (fun v kk=>by rw[á,List.length_replicate])).trans ?_;refine(ai8 hS (B:=i*4503599627370496) (by omega) (by omega) (adK hS ht i (by omega)) (adV _ _) _).trans ?_;rw[ĝ (Ö (by simp only[kF,List.length_singleton]; omega)),Õ (by omega) (by omega)];congr 2;unfold nX;rw[List.range_succ (n:=i+1),List.map_append];rfl
 ·try dsimp only
  unfold MZ;rw[List.length_replicate];have e1:ilt (most:Int) (most:Int)=false:=decide_eq_false (by omega);rw[Ð e1]
def RD (L:List Lk) (x:List Int) (good:Int→Bool) (u sum:Int):Option Nat:=L.findIdx? fun l=>l.1==u&&(decide (gv x l.2.1≠ľ)&&good (sum+l.2.2+gv x l.2.1))
def rY (L:List Lk) (rest:Nat→List Int) (good:Int→Bool):Nat→Int→Int→List Int→List Int
 |0,_,_,out=>out
 |k+1,u,sum,out=>match RD L (rest k) good u sum with
  |some i=>rY L rest good k (L[i]?.getD (0,0,0)).2.1 (sum+(L[i]?.getD (0,0,0)).2.2) (out++[(i:Int)])
  |none=>rY L rest good k u sum out
def folL {ρ:Type} (good:Int→Bool) (c0:Int) (c1:List (List Int)) (c2:List Lk) (c3:Int) (v0:Int) (v1:Int) (v2:Int) (v3:List Int) (kn:Int→Int→Int→List Int→Option ρ) (k0:Int×Int×List Int→Option ρ):Option ρ :=
 ifb (ilt v2 c3) (ü c2 v2 fun e7=>ifb (ieq e7.1 v0) (ck (c0-(1:Int)) fun n8=>ü c1 n8 fun e9=>ü e9 e7.2.1 fun e10=>ifb (ine e10 (1152921504606846976:Int)) (ck (v1+e7.2.2) fun n11=>ck (c0-(1:Int)) fun n12=>ü c1 n12 fun e13=>ü e13 e7.2.1 fun e14=>ck (n11+e14) fun n15=>ifb (good n15) (ã (å ((List.length v3)+(List.length ([v2])))) (ck (v1+e7.2.2) fun n16=>k0 (e7.2.1,n16,(v3++([v2]))))) (ck (v2+(1:Int)) fun n17=>kn v0 v1 n17 v3)) (ck (v2+(1:Int)) fun n18=>kn v0 v1 n18 v3)) (ck (v2+(1:Int)) fun n19=>kn v0 v1 n19 v3)) (k0 (v0,v1,v3))
def anS {ρ:Type} (hS:į L N) (good:Int→Bool) {rest:List (List Int)} {k:Nat} {x:List Int} (hr:rest[k]?=some x) (hk:k≤100) (hx:Lim 1000000000000000000 x) (hxl:x.length=N) {u sum:Int} (hs : -1000000000000000000≤sum∧sum≤1000000000000000000) {out:List Int} (ho:out.length≤1000)
 (K:Int×Int×List Int→Option ρ):Ò (fun(v:Int×Int×Int×List Int) kk=>folL good ((k+1:Nat):Int) rest L (Ú L) v.1 v.2.1 v.2.2.1 v.2.2.2 (fun a b c d=>kk (a,b,c,d)) K) (u,sum,(0:Int),out) =
  match RD L x good u sum with|some i=>K ((L[i]?.getD (0,0,0)).2.1,sum+(L[i]?.getD (0,0,0)).2.2,out++[(i:Int)])|none=>K (u,sum,out):=by
 have hl3:=hS.len;refine ń (fun v=>∃i:Nat,i≤L.length∧v=(u,sum,(i:Int),out)∧∀j l,j<i→L[j]?=some l→(l.1==u&&(decide (gv x l.2.1≠ľ)&&good (sum+l.2.2+gv x l.2.1)))=false) (fun v=>L.length-v.2.2.1.toNat) ?_ ⟨0,by omega,rfl,fun j l h=>by omega⟩;rintro v ⟨i,hi,rfl,hp⟩
 have e0:(((k+1:Nat):Int)-1)=(k:Int):=by omega
 rcases dv i L.length with h2|h2
 ·have hl:L[i]?=some L[i]:=cI h2;generalize L[i]=l at hl;have hm:=cR hl;have h1:=hS.inr l hm;have h4:=hS.most l hm
  have hstep:(l.1==u&&(decide (gv x l.2.1≠ľ)&&good (sum+l.2.2+gv x l.2.1)))=false→∃y,(∃i:Nat,i≤L.length∧y=(u,sum,(i:Int),out)∧∀j l,j<i→L[j]?=some l→(l.1==u&&(decide (gv x l.2.1≠ľ)&&good (sum+l.2.2+gv x l.2.1)))=false)∧(L.length-y.2.2.1.toNat<L.length-((u,sum,(i:Int),out):Int×Int×Int×List Int).2.2.1.toNat)∧y=(u,sum,(i:Int)+1,out):=fun hf =>
   ⟨_,⟨i+1,h2,by rw[show((i+1:Nat):Int)=(i:Int)+1 by push_cast; rfl],fun j m hj hm=>by
    rcases Nat.lt_succ_iff_lt_or_eq.1 hj with h|rfl
    ·exact hp j m h hm
    ·rw[hl] at hm; cases hm; exact hf⟩,by simp; omega,rfl⟩
  by_cases hf:(l.1==u&&(decide (gv x l.2.1≠ľ)&&good (sum+l.2.2+gv x l.2.1)))=true
  ·refine .inl fun kn=>?_
   have hfi:RD L x good u sum=some i:=by
    unfold RD;rw[List.findIdx?_eq_some_iff_getElem];obtain⟨hh,rfl⟩:=List.getElem?_eq_some_iff.1 hl;exact⟨h2,hf,fun j hj=>by have:=hp j _ hj (List.getElem?_eq_getElem (by omega)); rw[this]; simp⟩
   rw[hfi];simp only[Bool.and_eq_true,beq_iff_eq,decide_eq_true_eq] at hf;have h5:=hx _ hf.2.1;dsimp only;unfold folL
   rw[Ô h2,Ë hl,Ó (by simp[hf.1]),e0,Õ (by omega) (by omega),Ë hr,nN h1.2.1 (by omega),Ó (bne_iff_ne.2 hf.2.1),Õ (by omega) (by omega),Õ (by omega) (by omega),Ë hr,nN h1.2.1 (by omega),Õ (by omega) (by omega),Ó hf.2.2,
    ĝ (Ö (by simp; omega)),Õ (by omega) (by omega),hl]
   rfl
  ·have hf':=Bool.not_eq_true _▸hf;obtain⟨y,hy1,hy2,rfl⟩:=hstep hf';refine .inr ⟨_,hy1,hy2,fun kn=>?_⟩;dsimp only;unfold folL;rw[Ô h2,Ë hl,Î h2 (by omega)]
   by_cases g1:l.1=u
   ·rw[Ó (by simp[g1]),e0,Õ (by omega) (by omega),Ë hr,nN h1.2.1 (by omega)]
    by_cases g2:gv x l.2.1=ľ
    ·rw[Ð (by rw[g2]; rfl)]
    ·have h5:=hx _ g2
     have g3:good (sum+l.2.2+gv x l.2.1)=false:=by simpa[g1,g2] using hf'
     rw[Ó (bne_iff_ne.2 g2),Õ (by omega) (by omega),Õ (by omega) (by omega),Ë hr,nN h1.2.1 (by omega),Õ (by omega) (by omega),Ð g3]
   ·rw[Ð (by simpa using g1)]
 ·refine .inl fun kn=>?_
  obtain rfl:i=L.length:=by omega
  have hfi:RD L x good u sum=none:=by
   unfold RD;rw[List.findIdx?_eq_none_iff];intro l hl;obtain⟨j,hj,rfl⟩:=List.mem_iff_getElem.1 hl;exact hp j _ hj (List.getElem?_eq_getElem hj)
  rw[hfi];dsimp only;unfold folL;rw[à]
def anR {ρ:Type} (good:Int→Bool) (c0:List (List Int)) (c6:List Lk) (v0:Int) (v1:Int) (v2:Int) (v3:List Int) (kn:Int→Int→Int→List Int→Option ρ) (k0:List Int→Option ρ):Option ρ :=
 ifb (igt v1 (0:Int)) (Ò (fun(v22:Int×Int×Int×List Int) kk27=>folL good v1 c0 c6 (Ú c6) v22.1 v22.2.1 v22.2.2.1 v22.2.2.2 (fun u23 u24 u25 u26=>kk27 (u23,u24,u25,u26)) (fun z20=>ck (v1-(1:Int)) fun n21=>kn z20.1 n21 z20.2.1 z20.2.2)) (v0,v2,(0:Int),v3)) (k0 v3)
def amm {ρ:Type} (c0:List (List Int)) (c4:Int) (c6:List Lk):@qU ρ c0 c4 c6=anR (fun n=>ieq n c4) c0 c6:=rfl
def anQ {ρ:Type} (hS:į L N) (good:Int→Bool) {rest:List (List Int)} {R:Nat→List Int} {k0:Nat} (hk:k0≤100) (hr:∀k,k<k0→rest[k]?=some (R k)) (hx:∀k,k<k0→Lim 900000000000000000 (R k)∧(R k).length=N) (u:Int) (K:List Int→Option ρ) :
 Ò (fun(v:Int×Int×Int×List Int) kk=>anR good rest L v.1 v.2.1 v.2.2.1 v.2.2.2 (fun a b c d=>kk (a,b,c,d)) K) (u,(k0:Int),(0:Int),[])=K (rY L R good k0 u 0 []):=by
 have key:=tp (f:=fun(v:Int×Int×Int×List Int) kk=>anR good rest L v.1 v.2.1 v.2.2.1 v.2.2.2 (fun a b c d=>kk (a,b,c,d)) K) (F:=fun v=>K (rY L R good v.2.1.toNat v.1 v.2.2.1 v.2.2.2))
  (fun v=>∃k:Nat,v.2.1=k∧k≤k0∧(-(((k0-k:Nat):Int)*4503599627370496)≤v.2.2.1∧v.2.2.1≤((k0-k:Nat):Int)*4503599627370496)∧v.2.2.2.length≤k0-k) (fun v=>v.2.1.toNat) (fun v hv kn hk=>?_) (x:=(u,(k0:Int),0,[])) ⟨k0,rfl,cJ _,by simp,by simp⟩
 ·rw[key]; simp
 ·obtain⟨u,k',sum,out⟩:=v;obtain⟨k,e,h1,h2,h3⟩:=hv;dsimp only at e h2 h3 hk ⊢;subst e;rw[Int.toNat_natCast] at hk ⊢;unfold anR
  cases k with
  |zero =>
   rw[Ð (by rfl)];rfl
  |succ k =>
   rw[Ó (decide_eq_true (by omega))];have hh:=hx k (by omega)
   have hlim:Lim 1000000000000000000 (R k):=fun v hv=>by have:=hh.1 v hv; omega
   refine(anS hS good (hr k (by omega)) (by omega) hlim hh.2 (by omega) (by omega) _).trans ?_;unfold rY
   have e0:(((k+1:Nat):Int)-1)=(k:Int):=by omega
   cases hn:RD L (R k) good u sum with
   |none =>
    dsimp only;rw[e0,Õ (by omega) (by omega),hk _ ⟨k,rfl,by omega,by dsimp only; omega,by dsimp only; omega⟩ (by simp)];simp
   |some i =>
    have hi:i<L.length:=by
     unfold RD at hn;exact(List.findIdx?_eq_some_iff_getElem.1 hn).1
    have hl:L[i]?=some L[i]:=List.getElem?_eq_getElem hi;have h4:=hS.most L[i] (List.getElem_mem _);dsimp only;rw[hl];simp only[Option.getD_some];rw[e0,Õ (by omega) (by omega),hk _ ⟨k,rfl,by omega,by dsimp only; omega,by simp; omega⟩ (by simp)];simp
def Rv (L:List Lk) (N:Nat) (u v:Int):List Int×Int :=
 if (ii L N u v).2≠0 then([],(ii L N u v).2) else
 match (nX L N v N).findIdx? (fun x=>gv x u==(ii L N u v).1) with
 |some k=>(rY L (exL L N v) (fun n=>ieq n (ii L N u v).1) k u 0 [],0)
 |none=>([],0)
def agb (hS:į L N) {u v:Int} (hu:0≤u∧u<N) (hv:0≤v∧v<N):zl ((N:Int),L) u v=some (Rv L N u v):=by
 have hN:=hS.n60;unfold zl PQ Rv;rw[No hS hu hv,À]
 by_cases h:(ii L N u v).2=0
 ·rw[Ð (by rw[h]; rfl),if_neg (by simp[h]),al2 hS hv (by omega),À];rw[amm]
  let k0:Int→Option (List Int×Int):=fun j=>Ò (fun(v29:Int×Int×Int×List Int) kk34=>anR (fun n=>ieq n (ii L N u v).1) (nX L N v N) L v29.1 v29.2.1 v29.2.2.1 v29.2.2.2 (fun u30 u31 u32 u33=>kk34 (u30,u31,u32,u33)) (fun z28=>some ((z28,(0:Int)):List Int×Int))) (u,j,(0:Int),[])
  refine(δ (nX L N v N) (fun x=>gv x u==(ii L N u v).1) k0 (k0 (-1)) (fun i x hi hx kn=>?_) (fun kn=>?_)).trans ?_
  rotate_left
  ·try dsimp only
   unfold qV;rw[à]
  ·have hex:∀k,k<N+1→(nX L N v N)[k]?=some (exL L N v k):=fun k hk=>JH (by omega)
   have hlim:∀k,k<N+1→Lim 900000000000000000 (exL L N v k)∧(exL L N v k).length=N:=fun k hk=>⟨fun w hw=>by
    have:=adK hS hv k (by omega) w hw; omega,adV _ _⟩
   cases hf:(nX L N v N).findIdx? (fun x=>gv x u==(ii L N u v).1) with
   |none =>
    have:=tp (f:=fun(v29:Int×Int×Int×List Int) kk34=>anR (fun n=>ieq n (ii L N u v).1) (nX L N v N) L v29.1 v29.2.1 v29.2.2.1 v29.2.2.2 (fun u30 u31 u32 u33=>kk34 (u30,u31,u32,u33)) (fun z28=>some ((z28,(0:Int)):List Int×Int))) (F:=fun _=>some (([],0):List Int×Int)) (fun v=>v.2.1 = -1∧v.2.2.2=[]) (fun _=>0) (fun x hx kn hk=>by
     unfold anR;rw[hx.1,hx.2]
     rfl) (x:=(u,(-1:Int),(0:Int),[])) ⟨rfl,rfl⟩
    exact this
   |some k =>
    have hk:=(dI.1 hf).1;rw[kF] at hk;exact anQ hS _ (R:=exL L N v) (by omega) (fun j hj=>hex j (by omega)) (fun j hj=>hlim j (by omega)) u (fun z=>some ((z,(0:Int)):List Int×Int))
  ·try dsimp only
   unfold qV
   have hxl:x.length=N:=by
    have hi':=hi;rw[kF] at hi';rw[JH (by omega)] at hx;cases hx;exact adV _ _
   rw[kF] at hi;rw[á,kF,Ó (decide_eq_true (by omega)),Ë hx,nN hu.1 (by omega),Õ (by omega) (by omega),Ĥ]
 ·rw[Ó (bne_iff_ne.2 h),if_pos h]
end
def ah7 (f:Int→Int→Int) (z:Int) (l:List Int) (d:Int):Int:=match l with|[]=>z|x::_=>f x d
def Hr (f:Int→Int→Int) (z:Int) (c:Cmp):Int:=ah7 f z (è c.2.2.1 c.2.2.2.1) c.2.1-ah7 f z (è c.2.2.2.1 c.2.2.1) c.2.1
structure aos (b:Þ) (f:Int→Int→Int) (z:Int) (g:ê):Prop where
 hi:f g.1 g.2.1≤z+(g.2.2.1+g.2.2.2.1.2)
 lo:z+(g.2.2.1+g.2.2.2.1.1)≤f g.1 g.2.1
 down:∀d e,g.2.1≤d→d≤e→f g.1 e≤f g.1 d
 loss:∀d e,g.2.1≤d→d≤e→f g.1 d≤f g.1 e+iQ b g d e
structure acr (b:Þ) (f:Int→Int→Int) (z:Int):Prop where
 gauge:∀g∈b.2.1,aos b f z g
 cmp:∀c∈b.2.2.2.2.1,(Φ b c).1≤Hr f z c∧Hr f z c≤(Φ b c).2
def abE {b:Þ} (h:ē b) {p:Int→Int} (hg:∀g∈b.2.1,pX b p g):∃f:Int→Int→Int,(∀g∈b.2.1,aos b f (p 0) g)∧∀g∈b.2.1,∀d∈ß b g,f g.1 d=p (Κ b g.1 d):=by
 let f:Int→Int→Int:=fun id d=>match Ů b id with|some g=>fill b p g d|none=>0
 have hfv:∀g∈b.2.1,∀d,f g.1 d=fill b p g d:=fun g hgm d=>by
  show(match Ů b g.1 with|some g=>fill b p g d|none=>0)=_;rw[vz h.ids hgm]
 refine⟨f,fun g hgm=>?_,fun g hgm d hd=>by rw[hfv g hgm]; exact M9 h hgm (hg g hgm) hd⟩;have gf:=hg g hgm
 have e0:f g.1 g.2.1=p (Κ b g.1 g.2.1):=by rw[hfv g hgm]; exact M9 h hgm gf (j7 g)
 refine⟨by rw[e0]; exact gf.hi,by rw[e0]; exact gf.lo,fun d e h0 hde=>?_,fun d e h0 hde=>?_⟩
 ·rw[hfv g hgm,hfv g hgm];exact(G4 h hgm gf h0 hde).1
 ·rw[hfv g hgm,hfv g hgm];exact(G4 h hgm gf h0 hde).2
def Y1 {b:Þ} {f:Int→Int→Int} {p:Int→Int} (hm:∀g∈b.2.1,∀d∈ß b g,f g.1 d=p (Κ b g.1 d)) {l:List Int} {day:Int} (hl:∀x∈l,∃g∈b.2.1,g.1=x∧day∈ß b g):p (MH b l day)=ah7 f (p 0) l day:=by
 cases l with
 |nil=>rfl
 |cons x t =>
  obtain⟨g,q1,rfl,q3⟩:=hl x (by simp);exact(hm g q1 day q3).symm
def QW {b:Þ} {f:Int→Int→Int} {p:Int→Int} (hm:∀g∈b.2.1,∀d∈ß b g,f g.1 d=p (Κ b g.1 d)) {c:Cmp}
 (hl:∀x,x∈è c.2.2.1 c.2.2.2.1∨x∈è c.2.2.2.1 c.2.2.1→∃g∈b.2.1,g.1=x∧c.2.1∈ß b g):p (cx b c)-p (cy b c)=Hr f (p 0) c:=by
 unfold Hr;rw[JM,JL,Y1 hm (fun x hx=>hl x (.inl hx)),Y1 hm (fun x hx=>hl x (.inr hx))]
def TS {b:Þ} (h:ē b) (f:Int→Int→Int) (z:Int) {l:List Int} {day:Int} (hl:∀x∈l,∃g∈b.2.1,g.1=x∧day∈ß b g):TT b f z (MH b l day)=ah7 f z l day:=by
 rw[JU h f z hl];unfold ah7
 cases l<;>rfl
def NF {b:Þ} (h:ē b) {f:Int→Int→Int} {z:Int} {c:Cmp} (hl:∀x,x∈è c.2.2.1 c.2.2.2.1∨x∈è c.2.2.2.1 c.2.2.1→∃g∈b.2.1,g.1=x∧c.2.1∈ß b g):TT b f z (cx b c)-TT b f z (cy b c)=Hr f z c:=by
 unfold Hr;rw[JM,JL,TS h f z (fun x hx=>hl x (.inl hx)),TS h f z (fun x hx=>hl x (.inr hx))]
def TR {b:Þ} (h:ē b) {f:Int→Int→Int} {z:Int} {g:ê} (hg:g∈b.2.1) (hh:aos b f z g):pX b (TT b f z) g:=by
 have q:∀d∈ß b g,TT b f z (Κ b g.1 d)=f g.1 d:=fun d hd=>D5 h f z hg hd;have e0:=q g.2.1 (j7 g);refine⟨?_,?_,fun d e hd he hde=>?_,fun d e hd he hde=>?_⟩
 ·rw[e0,o8]; exact hh.hi
 ·rw[e0,o8]; exact hh.lo
 ·rw[q d hd,q e he]; exact hh.down d e (h.day hg hd).1 hde
 ·rw[q d hd,q e he]; exact hh.loss d e (h.day hg hd).1 hde
section
variable {b:Þ} {c:Cmp}
def alp (h:ē b) {p:Int→Int} (hp:Pot (Ý b) p):∃f,acr b f (p 0)∧∀g∈b.2.1,∀d∈ß b g,f g.1 d=p (Κ b g.1 d):=by
 obtain⟨hg,hc⟩:=(Vy h).1 hp;obtain⟨f,hf,hm⟩:=abE h hg;refine⟨f,⟨hf,fun c hcm=>?_⟩,hm⟩;have:=QW hm (c:=c) (fun x hx=>ov h hcm hx);have:=hc c hcm;omega
def alT (h:ē b) {f:Int→Int→Int} {z:Int} (hh:acr b f z):Pot (Ý b) (TT b f z):=by
 refine(Vy h).2 ⟨fun g hg=>TR h hg (hh.gauge g hg),fun c hc=>?_⟩;have:=NF (f:=f) (z:=z) h (c:=c) (fun x hx=>ov h hc hx);have:=hh.cmp c hc;omega
def afH (h:ē b) {d:Cmp} (hd:d∈b.2.2.2.2.1):∀x,x∈è d.2.2.1 d.2.2.2.1∨x∈è d.2.2.2.1 d.2.2.1→∃g∈(ì b c).2.1,g.1=x∧d.2.1∈ß (ì b c) g:=by
 intro x hx;obtain⟨g,q1,q2,q3⟩:=ov h hd hx;exact⟨g,q1,q2,tU q3⟩
def ajm (h:ē b) (h':ē (ì b c)) {p:Int→Int} (hp:Pot (ø (ì b c)) p):∃f,acr b f (p 0)∧p (cx (ì b c) c)-p (cy (ì b c) c)=Hr f (p 0) c:=by
 obtain⟨hg,hc⟩:=(M7 h').1 hp;obtain⟨f,hf,hm⟩:=abE h' hg;refine⟨f,⟨fun g hgm=>?_,fun d hd=>?_⟩,QW hm fun x hx=>ov h' zL hx⟩
 ·have:=hf g hgm;exact⟨this.hi,this.lo,this.down,this.loss⟩
 ·have:=QW hm (c:=d) (afH h hd);have:=hc d hd;omega
def ajl (h:ē b) (h':ē (ì b c)) {f:Int→Int→Int} {z:Int} (hh:acr b f z):Pot (ø (ì b c)) (TT (ì b c) f z)∧TT (ì b c) f z (cx (ì b c) c)-TT (ì b c) f z (cy (ì b c) c)=Hr f z c:=by
 refine⟨(M7 h').2 ⟨fun g hg=>TR h' hg ?_,fun d hd=>?_⟩,NF h' fun x hx=>ov h' zL hx⟩
 ·have:=hh.gauge g hg;exact⟨this.hi,this.lo,this.down,this.loss⟩
 ·have:=NF (f:=f) (z:=z) h' (c:=d) (afH h hd);have:=hh.cmp d hd;omega
def ZI (h:ē b):ģ (Ý b) ((Ê b).length+1)=true↔∃f z,acr b f z:=by
 have:=h.sys.n60;rw[Ĭ h.sys.links (by omega)];constructor
 ·rintro⟨p,hp⟩;obtain⟨f,hf,_⟩:=alp h hp;exact⟨f,_,hf⟩
 ·rintro⟨f,z,hh⟩;exact⟨_,alT h hh⟩
def d_max (h:ē b) (h':ē (ì b c)) {f:Int→Int→Int} {z:Int} (hh:acr b f z):dLo b c≤Hr f z c∧Hr f z c≤dHi b c:=by
 have ho:ģ (ø (ì b c)) ((Ê (ì b c)).length+1)=true:=by rw[pE h h']; exact(ZI h).2 ⟨f,z,hh⟩
 obtain⟨hp,hd⟩:=ajl h h' hh;have a1:=X8 (jw h') (jR h') ho (Ci h') (Ch h') hp;have a2:=X8 (jw h') (jR h') ho (Ch h') (Ci h') hp;unfold dLo dHi;omega
def d_all (h:ē b) (h':ē (ì b c)) (ho:ģ (Ý b) ((Ê b).length+1)=true) {t:Int} (h1:dLo b c≤t) (h2:t≤dHi b c):∃f z,acr b f z∧Hr f z c=t:=by
 rw[←pE h h'] at ho;obtain⟨p,hp,hd⟩:=ajF (jw h') (jR h') ho (Ci h') (Ch h') h1 h2;obtain⟨f,hf,he⟩:=ajm h h' hp;exact⟨f,_,hf,by rw[←he]; exact hd⟩
def an4 (h:ē b) (h':ē (ì b c)) (ho:ģ (Ý b) ((Ê b).length+1)=true):dLo b c≤dHi b c:=by
 rw[←pE h h'] at ho;exact Hq (jw h') (jR h') ho (Ci h') (Ch h')
structure Pred (b:Þ) (c:Cmp) (s:Int×Int):Prop where
 good:ē b
 good2:ē (ì b (É c))
 order:adJ b c≤DG b c
 has:∃f z,acr b f z
 ends:s.1-adJ b c≤s.2-DG b c
 bd : -9007199254740992≤s.1-adJ b c∧s.2-DG b c≤9007199254740992
 all:∀f z,acr b f z→s.1-adJ b c≤Hr f z c∧Hr f z c≤s.2-DG b c
 each:∀t,s.1-adJ b c≤t→t≤s.2-DG b c→∃f z,acr b f z∧Hr f z c=t
def Ze (hp:(Ľ b c).2=0):Pred b c (Ľ b c).1:=by
 obtain⟨h,h'⟩:=oH hp;rw[Rs h h'] at hp ⊢
 by_cases ho:ģ (Ý b) ((Ê b).length+1)=true
 ·rw[if_pos ho] at hp ⊢;obtain⟨h1,h2⟩:=acB hp;rw[h2];have e1:adJ b (É c)=adJ b c:=rfl;have e2:DG b (É c)=DG b c:=rfl;rw[e1,e2] at *
  have s1:dLo b (É c)+adJ b c-adJ b c=dLo b (É c):=by omega
  have s2:dHi b (É c)+DG b c-DG b c=dHi b (É c):=by omega
  refine⟨h,h',h1,(ZI h).1 ho,?_,?_,fun f z hh=>?_,fun t t1 t2=>?_⟩
  ·simp only;rw[s1,s2];exact an4 h h' ho
  ·simp only;rw[s1,s2];rw[←pE h h'] at ho;have a1:=afG (jw h') (jR h') ho (Ci h') (Ch h');have a2:=afG (jw h') (jR h') ho (Ch h') (Ci h');unfold dLo dHi;omega
  ·simp only;rw[s1,s2];exact d_max (c:=É c) h h' hh
  ·simp only at t1 t2;rw[s1] at t1;rw[s2] at t2;exact d_all (c:=É c) h h' ho t1 t2
 ·rw[if_neg ho] at hp;simp at hp
end
theorem Vm {b:Þ} (h:ē b):(Ŭ b).length=(Ý b).length:=by
 have g0:∀i,((b.2.1.take i).mapIdx (ò b)).flatten.length=((b.2.1.take i).flatMap (ô b)).length:=by
  intro i
  induction i with
  |zero=>simp
  |succ i ih =>
   rcases dv i b.2.1.length with hi|hi
   ·have hg:b.2.1[i]?=some b.2.1[i]:=List.getElem?_eq_getElem hi;rw[iA _ hg,take_succ hg,List.flatMap_append,List.flatten_append,List.length_append,List.length_append,ih];congr 1;unfold ò ô;simp only[List.flatMap_cons,List.flatMap_nil,List.append_nil,List.flatten_cons,List.flatten_nil,List.length_append];rw[ŷ _ _ (fun _=>rfl),ŷ _ _ (fun _=>rfl)];rfl
   ·rw[dS (by omega)] at ih ⊢;exact ih
 have c0:=Vc (b:=b) b.2.2.2.2.1.length (Nat.le_refl _);have g1:=g0 b.2.1.length;rw[List.take_length] at c0 g1;unfold Ŭ Ý;rw[List.length_append,List.length_append,g1,c0.1,c0.2]
theorem abp {b:Þ}:∀s∈(b.2.1.mapIdx (ò b)).flatten,(s.1=1∨s.1=2)∧0≤s.2∧s.2<b.2.1.length:=by
 intro s hs;obtain⟨l,hl,hm⟩:=List.mem_flatten.1 hs;obtain⟨i,hi,rfl⟩:=List.mem_iff_getElem.1 hl;rw[List.length_mapIdx] at hi;rw[List.getElem_mapIdx] at hm;unfold ò at hm;rcases List.mem_append.1 hm with h|h
 ·simp at h; subst h; exact⟨.inl rfl,by dsimp only; omega,by dsimp only; omega⟩
 ·obtain⟨_,_,h⟩:=List.mem_flatMap.1 h;simp at h; subst h; exact⟨.inr rfl,by dsimp only; omega,by dsimp only; omega⟩
theorem abM {l:List Cmp}:∀s∈(l.mapIdx fun i (_:Cmp)=>[((3:Int),(i:Int)),((3:Int),(i:Int))]).flatten,s.1=3∧0≤s.2∧s.2<l.length:=by
 intro s hs;obtain⟨m,hl,hm⟩:=List.mem_flatten.1 hs;obtain⟨i,hi,rfl⟩:=List.mem_iff_getElem.1 hl;rw[List.length_mapIdx] at hi;rw[List.getElem_mapIdx] at hm;simp at hm; subst hm;exact⟨rfl,by dsimp only; omega,by dsimp only; omega⟩
theorem alB (b:Þ) (c:Cmp):∃S:List (Int×Int),Ŭ (ì b c)=S++[(3,(b.2.2.2.2.1.length:Int)),(3,(b.2.2.2.2.1.length:Int))]∧∀s∈S,¬(s.1=3∧s.2=(b.2.2.2.2.1.length:Int)):=by
 refine⟨((ì b c).2.1.mapIdx (ò (ì b c))).flatten++(b.2.2.2.2.1.mapIdx fun i (_:Cmp)=>[((3:Int),(i:Int)),((3:Int),(i:Int))]).flatten,?_,fun s hs=>?_⟩
 ·unfold Ŭ;rw[show(ì b c).2.2.2.2.1=b.2.2.2.2.1++[c] from rfl,List.mapIdx_append,List.flatten_append,List.append_assoc];simp
 ·rcases cQ.1 hs with h|h
  ·have:=abp s h; omega
  ·have:=abM s h; omega
theorem UI (b:Þ) (c:Cmp) (h:ē (ì b c)):Ý (ì b c)=ø (ì b c)++[(cy (ì b c) c,cx (ì b c) c,(Φ (ì b c) c).2),(cx (ì b c) c,cy (ì b c) c,-(Φ (ì b c) c).1)]:=by
 rw[adP];unfold Ý;rw[show(ì b c).2.2.2.2.1=b.2.2.2.2.1++[c] from rfl,List.flatMap_append,List.append_assoc];simp[Ą]
def amY (b:Þ) (c:Cmp) (s t:Int):Int:=dst (ø (ì b c)) ((Ê (ì b c)).length+1) s t
abbrev End:Type:=Int×Int×Int
abbrev JY:Type:=(Int×Int)×End×End
def endP (b:Þ) (c:Cmp) (s t:Int):End :=
 (amY b c s t,amY b c s (cy (ì b c) c)+(Φ b c).2+amY b c (cx (ì b c) c) t,amY b c s (cx (ì b c) c)-(Φ b c).1+amY b c (cy (ì b c) c) t)
def worth0:JY:=((0,0),(0,0,0),(0,0,0))
def YI (b:Þ) (n:Int×Int) (c:Cmp):JY :=
 ((Ľ b c).1,endP b (É c) 0 (jH (ì b (É c)) n.1 n.2),endP b (É c) (jH (ì b (É c)) n.1 n.2) 0)
def XS (b:Þ) (n:Int×Int) (c:Cmp):JY×Int:=if (Ľ b c).2≠0 then(worth0,(Ľ b c).2) else(YI b n c,0)
theorem J9 {b:Þ} {c:Cmp} (h:(Ľ b c).2=0):ģ (Ý b) ((Ê b).length+1)=true:=by
 obtain⟨g1,g2⟩:=oH h;rw[Rs g1 g2] at h
 by_cases ho:ģ (Ý b) ((Ê b).length+1)=true
 ·exact ho
 ·rw[if_neg ho] at h; cases h
section
variable {b:Þ} {c:Cmp} (h:ē b) (h':ē (ì b c)) (ho:ģ (Ý b) ((Ê b).length+1)=true)
include h h' ho
theorem rX {s t:Int} (hs:0≤s∧s<((Ê (ì b c)).length+1:Nat)) (ht:0≤t∧t<((Ê (ì b c)).length+1:Nat)) : -9007199254740992≤amY b c s t∧amY b c s t≤9007199254740992 :=
 afG (jw h') (jR h') (by rw[pE h h']; exact ho) hs ht
theorem tx (B:Þ) {s t:Int} (hs:0≤s∧s<((Ê (ì b c)).length+1:Nat)) (ht:0≤t∧t<((Ê (ì b c)).length+1:Nat)):Ĉ (B,(((Ê (ì b c)).length:Int)+1,ø (ì b c))) t s=some (amY b c s t):=by
 rw[show(((Ê (ì b c)).length:Int)+1)=(((Ê (ì b c)).length+1:Nat):Int) by push_cast; rfl,ab5 (jw h') ht hs,AC (jw h') (jR h') hs ht,if_pos (by rw[pE h h']; exact ho)];rfl
theorem aic:(-4503599627370496≤(Φ b c).1∧(Φ b c).1≤4503599627370496)∧(-4503599627370496≤(Φ b c).2∧(Φ b c).2≤4503599627370496):=by
 have hs:=h'.sys;have e:=UI b c h';have m1:=hs.most (cy (ì b c) c,cx (ì b c) c,(Φ (ì b c) c).2) (by rw[e]; simp);have m2:=hs.most (cx (ì b c) c,cy (ì b c) c,-(Φ (ì b c) c).1) (by rw[e]; simp);have e2:Φ (ì b c) c=Φ b c:=rfl;rw[e2] at m1 m2;dsimp only at m1 m2;omega
theorem afE (B:Þ) {s t:Int} (hs:0≤s∧s<((Ê (ì b c)).length+1:Nat)) (ht:0≤t∧t<((Ê (ì b c)).length+1:Nat)) :
 nl t s (B,(((Ê (ì b c)).length:Int)+1,ø (ì b c))) (cy (ì b c) c) (Φ b c) (cx (ì b c) c)=some (endP b c s t):=by
 have hx:=Ci h';have hy:=Ch h';have b1:=rX h h' ho hs ht;have b2:=rX h h' ho hs hy;have b3:=rX h h' ho hx ht;have b4:=rX h h' ho hs hx;have b5:=rX h h' ho hy ht;have b6:=aic h h' ho;unfold nl yj;rw[tx h h' ho B hs ht,À,tx h h' ho B hs hy,À,Õ (by omega) (by omega),tx h h' ho B hx ht,À,Õ (by omega) (by omega),tx h h' ho B hs hx,À,Õ (by omega) (by omega),tx h h' ho B hy ht,À,Õ (by omega) (by omega)];rfl
end
theorem Zg {B:Þ} (h:ē B) (hn:∀g∈B.2.1,I64 g.2.2.2.2.1.1) (s:Sys) (l:List Int) (c:Cmp):np l (B,s) c=some (atP (Ê B) l c.2.1):=by
 unfold np yk
 cases l with
 |nil=>rw[á]; rfl
 |cons x t =>
  rw[á,Ð (beq_eq_false_iff_ne.2 (by simp; omega)),show(0:Int)=((0:Nat):Int) from rfl,Ë (show(x::t)[0]?=some x from rfl),Lu h hn,À];rfl
theorem ajs {ρ:Type} {b:Þ} {c:Cmp} (h:ē (ì b c)) (K:List Lk→Option ρ) :
 Ò (fun(v17:Val Ì) kk20=>lp (b.2.2.2.2.1.length:Int) (Ŭ (ì b c)) (Ý (ì b c)) (Ú (Ý (ì b c))) v17.1 v17.2 (fun u18 u19=>kk20 (u18,u19)) K) ((0:Int),[])=K (ø (ì b c)):=by
 have hl3:=h.sys.len;have hsl:=Vm h;obtain⟨S,hS,hSk⟩:=alB b c;have hL:=UI b c h
 have hSl:S.length=(ø (ì b c)).length:=by
  rw[hS,hL,cN,cN] at hsl;simpa using hsl
 generalize ø (ì b c)=H at hL hSl ⊢;rw[hS];generalize Ý (ì b c)=L at hL hsl hl3 ⊢
 have hLl:L.length=H.length+2:=by rw[hL]; simp
 refine ð L (fun i=>(L.take i).take H.length) _ (by simp) (fun i l hi hl kn=>?_) (fun kn=>?_)
 ·try dsimp only
  unfold lp;rw[Ô hi,Ë hl];rcases Nat.lt_or_ge i H.length with h1|h1
  ·have hs:(S++[((3:Int),(b.2.2.2.2.1.length:Int)),(3,(b.2.2.2.2.1.length:Int))])[i]?=some S[i]:=by
    rw[gu (by omega),cI]
   have hk:=hSk S[i] (fg _)
   have e:((Ŋ (S[i]).1 (3:Int))&&((Ŋ (S[i]).2 (b.2.2.2.2.1.length:Int))&&true))=false:=by
    simp[Ŋ]; omega
   have e1:(L.take i).take H.length=L.take i:=dS (by rw[cZ]; omega);have e2:(L.take (i+1)).take H.length=L.take (i+1):=dS (by rw[cZ]; omega);rw[Ë hs,e,Ó (by rfl),e1,e2,ĝ (Ö (by rw[cZ]; simp; omega)),Î hi (by omega),take_succ hl]
  ·have hs:(S++[((3:Int),(b.2.2.2.2.1.length:Int)),(3,(b.2.2.2.2.1.length:Int))])[i]?=some ((3:Int),(b.2.2.2.2.1.length:Int)):=by
    rw[gg (by omega)]
    have:i-S.length=0∨i-S.length=1:=by omega
    rcases this with e|e<;>rw[e]<;>rfl
   have e:((Ŋ (3:Int) (3:Int))&&((Ŋ (b.2.2.2.2.1.length:Int) (b.2.2.2.2.1.length:Int))&&true))=true:=by simp[Ŋ]
   have e1:(L.take i).take H.length=(L.take (i+1)).take H.length:=by
    rw[List.take_take,List.take_take];congr 1;omega
   rw[Ë hs];dsimp only;rw[e,Ð (by rfl),Î hi (by omega),e1]
 ·try dsimp only
  unfold lp;rw[à,List.take_length,hL];simp
theorem abh {B:Þ} (hr:ahO B) (n:Int×Int) {c:Cmp} (hA:c.2.2.1.length≤1000) (hB:c.2.2.2.1.length≤1000):tM (B,DR B) n c=some (XS B n c):=by
 unfold tM IK XS;have hs:=hr.good.size;rw[show(B,DR B).1=B from rfl,ahD hs hr.num hA hB,À]
 by_cases hp:(Ľ B c).2=0
 ·obtain⟨g1,g2⟩:=oH hp;have ho:=J9 hp
  have e1:zB B (É c)=(ì B (É c),0):=by
   unfold zB;rw[if_neg (by simp[(ë B).2 g1]),if_neg (by simp[(ë _).2 g2])]
  have hn2:∀g∈(ì B (É c)).2.1,I64 g.2.2.2.2.1.1:=hr.num;have hC:=g2.nC
  have hw:(((ì B (É c)).2.2.2.2.1.length:Int)-1)=(B.2.2.2.2.1.length:Int):=by simp[ì]
  have hSays:amG (ì B (É c)) (B.2.2.2.2.1.length:Int)=(Φ B (É c),0):=by
   have e:sf (ì B (É c)) (B.2.2.2.2.1.length:Int)=(É c,0):=by
    unfold sf;rw[if_neg (by simp[(ë _).2 g2]),if_neg (by simp[ì]; omega)];simp[ì]
   unfold amG;rw[e,if_neg (by simp)];rfl
  have hCancel:Rw c.2.2.1 c.2.2.2.1=(è c.2.2.1 c.2.2.2.1,è c.2.2.2.1 c.2.2.1,0):=by
   have hnu:=(Χ _).1 (g2.nums (zL (c:=É c)));have h6:lM c.2.2.1=true∧lM c.2.2.2.1=true:=⟨hnu.2.2.2.2.2.1,hnu.2.2.2.2.2.2⟩;unfold Rw;rw[h6.1,h6.2];rfl
  rw[Ð (by rw[hp]; rfl),if_neg (by simp[hp]),show oC B (c.1,c.2.1,c.2.2.1,c.2.2.2.1,(0:Int),c.2.2.2.2.2)=oC B (É c) from rfl,aku hs hr.num (c:=É c) hA hB,À,e1];dsimp only;rw[Ð (by rfl),á,hw,Õ (by omega) (by omega),aoi (g2.inn hn2),À,hSays,acm (by omega) (by omega),À,hCancel,pW (g2.inn hn2),À,jm g2];dsimp only;refine(ajs g2 _).trans ?_;have ex:cx (ì B (É c)) (É c)=atP (Ê (ì B (É c))) (è c.2.2.1 c.2.2.2.1) c.2.1:=rfl;have ey:cy (ì B (É c)) (É c)=atP (Ê (ì B (É c))) (è c.2.2.2.1 c.2.2.1) c.2.1:=rfl;rw[Zg g2 hn2,À,Zg g2 hn2,À,Lu g2 hn2,À,←ex,←ey,afE g1 g2 ho _ (Ĩ _) (ŝ _ n),À,afE g1 g2 ho _ (ŝ _ n) (Ĩ _),À];rfl
 ·rw[Ó (bne_iff_ne.2 hp),if_pos hp];rfl
abbrev amP:Type:=Þ×(Int×Int)×Bool×Int×List Int
def ajT:amP:=(lS,(0,0),false,0,[])
def Co (L:List Lk):Int→Int→List Int→Int×Int×Bool
 |u,s,[]=>(u,s,true)
 |u,s,i::t=>if (L[i.toNat]?.getD (0,0,0)).1=u then Co L (L[i.toNat]?.getD (0,0,0)).2.1 (s+(L[i.toNat]?.getD (0,0,0)).2.2) t else(0,0,false)
def ab7 (L:List Lk) (i:Int):Bool:=decide (i<0)||decide ((L.length:Int)≤i)
def lu (L:List Lk) (l:List Int):Int:=if 80<l.length then 2 else if l.any (ab7 L) then 1 else 0
def Δ (L:List Lk) (u v:Int) (l:List Int):Int×Int :=
 if lu L l≠0 then(0,lu L l) else if (Co L u 0 l).2.2=true∧(Co L u 0 l).1=v then((Co L u 0 l).2.1,0) else(0,8)
def am8 (u:Int) (w:Int×Int×Bool):Int:=if w.2.2=true∧w.1=u∧w.2.1<0 then 0 else 8
def wc (L:List Lk) (l:List Int):Int :=
 if lu L l≠0 then lu L l else match l with
 |[]=>8
 |i::_=>am8 (L[i.toNat]?.getD (0,0,0)).1 (Co L (L[i.toNat]?.getD (0,0,0)).1 0 l)
section
variable {L:List Lk} {N:Nat}
def UO (N:Int) (hL:L.length≤1000) (l:List Int):pO (N,L) l=some (lu L l):=by
 unfold pO Dm lu;dsimp only;rw[á]
 by_cases h:80<l.length
 ·rw[Ó (decide_eq_true (by omega)),if_pos h]
 ·rw[Ð (decide_eq_false (by omega)),if_neg h,←á l];refine(Ļ l (ab7 L) (fun z=>ifb (ige z 0) (some 1) (some 0)) (some 1) (some 0) (fun j=>by rw[show ige (j:Int) 0=true from decide_eq_true (by omega)]; rfl) (fun i a hi ha kn=>?_) (fun kn=>?_)).trans ?_
  ·try dsimp only
   unfold mI ab7;rw[Ô hi,Ë ha,Î hi (by omega),á,Ĥ,Ĥ]
   by_cases h1:a<0
   ·simp[ilt,h1]
   ·by_cases h2:(L.length:Int)≤a
    ·simp[ilt,ige,h1,h2]
    ·simp[ilt,ige,h1,h2]
  ·try dsimp only
   unfold mI;rw[à]
  ·cases l.any (ab7 L)<;>rfl
def adO {l:List Int} (h:lu L l=0):l.length≤80∧∀i∈l,0≤i∧i.toNat<L.length:=by
 unfold lu at h
 split at h
 ·omega
 ·rename_i h1
  split at h
  ·omega
  ·rename_i h2;refine⟨by omega,fun i hi=>?_⟩;have:=eI.1 (er.2 h2) i hi;simp[ab7] at this;omega
def ahU (hS:į L N) (u:Int) {l:List Int} (h:lu L l=0):Hl ((N:Int),L) u l=some (Co L u 0 l):=by
 obtain⟨hl,hi⟩:=adO h;unfold Hl W7;dsimp only
 have:=tp (f:=fun(v7:Int×Int×Int) kk11=>uT l (Ú l) L v7.1 v7.2.1 v7.2.2 (fun u8 u9 u10=>kk11 (u8,u9,u10)) (fun z5=>some (z5.1,z5.2.1,z5.2.2)) (fun z6=>some (z6.1,z6.2,true)))
  (F:=fun v=>some (Co L v.1 v.2.1 (l.drop v.2.2.toNat))) (fun v=>∃i:Nat,v.2.2=i∧i≤l.length∧(-(i*4503599627370496)≤v.2.1∧v.2.1≤i*4503599627370496)) (fun v=>l.length-v.2.2.toNat) (fun v hv kn hk=>?_) (x:=(u,(0:Int),(0:Int))) ⟨0,rfl,by omega,by simp⟩
 ·exact this
 ·obtain⟨w,s,n⟩:=v;obtain⟨i,e,h1,h2⟩:=hv;dsimp only at e h2 hk ⊢;subst e;rw[Int.toNat_natCast] at hk ⊢;unfold uT;rcases Nat.lt_or_ge i l.length with h3|h3
  ·have ha:l[i]?=some l[i]:=List.getElem?_eq_getElem h3;have hd:l.drop i=l[i]::l.drop (i+1):=List.drop_eq_getElem_cons h3;rw[hd];have hx:=hi l[i] (List.getElem_mem _);generalize l[i]=a at ha hx;have hg:L[a.toNat]?=some L[a.toNat]:=List.getElem?_eq_getElem hx.2;have hm:=hS.most _ (List.mem_of_getElem? hg);generalize L[a.toNat]=x at hg hm;rw[Ô h3,Ë ha,jv hx.1 hg];unfold Co;rw[hg];simp only[Option.getD_some]
   by_cases hc:x.1=w
   ·rw[Ð (by rw[hc]; exact bne_self_eq_false' _),if_pos hc,Õ (by omega) (by omega),Î h3 (by omega),hk _ ⟨i+1,by push_cast; rfl,h3,by dsimp only; push_cast; omega⟩ (by simp; omega)];simp
   ·rw[Ó (bne_iff_ne.2 hc),if_neg hc]
  ·obtain rfl:i=l.length:=by omega
   rw[à,List.drop_length];rfl
def ahV (hS:į L N):∀(l:List Int) (u s B:Int),-B≤s∧s≤B→-(B+l.length*4503599627370496)≤(Co L u s l).2.1∧(Co L u s l).2.1≤B+l.length*4503599627370496
 |[],u,s,B,h=>by simp[Co]; omega
 |i::t,u,s,B,h=>by
  unfold Co
  have hm : -4503599627370496≤(L[i.toNat]?.getD (0,0,0)).2.2∧(L[i.toNat]?.getD (0,0,0)).2.2≤4503599627370496:=by
   cases hg:L[i.toNat]? with
   |none=>simp
   |some x=>exact hS.most x (cR hg)
  split
  ·have:=ahV hS t (L[i.toNat]?.getD (0,0,0)).2.1 (s+(L[i.toNat]?.getD (0,0,0)).2.2) (B+4503599627370496) (by omega);rw[cX];push_cast;omega
  ·dsimp only;omega
def HN (hS:į L N) {u v:Int} (hu:0≤u∧u<N) (hv:0≤v∧v<N) (l:List Int):jU ((N:Int),L) u v l=some (Δ L u v l):=by
 have hl3:=hS.len;unfold jU rQ Δ
 have e1:(decide (0≤u)&&decide (u<(N:Int)))=true:=by simp[hu.1,hu.2]
 have e2:(decide (0≤v)&&decide (v<(N:Int)))=true:=by simp[hv.1,hv.2]
 rw[lL hS,À,Ð (by rfl),N2,À,e1,Ð (by rfl),N2,À,e2,Ð (by rfl),UO _ (by omega),À]
 by_cases h:lu L l=0
 ·rw[Ð (by rw[h]; rfl),if_neg (by simp[h]),ahU hS u h,À]
  cases h1:(Co L u 0 l).2.2 with
  |false=>rw[Ó (by rfl),if_neg (by simp)]
  |true =>
   rw[Ð (by rfl)]
   by_cases h2:(Co L u 0 l).1=v
   ·rw[Ð (by rw[h2]; exact bne_self_eq_false' _),if_pos ⟨rfl,h2⟩]
   ·rw[Ó (bne_iff_ne.2 h2),if_neg (fun h=>h2 h.2)]
 ·rw[Ó (bne_iff_ne.2 h),if_pos h]
def aji {ρ α:Type} (x:α) (t:List α) (f:α→Option ρ):ü (x::t) (0:Int) f=f x:=rfl
def TG (hS:į L N) (l:List Int):mL ((N:Int),L) l=some (wc L l):=by
 have hl3:=hS.len;unfold mL rP wc;rw[lL hS,À,Ð (by rfl),UO _ (by omega),À]
 by_cases h:lu L l=0
 ·rw[Ð (by rw[h]; rfl),if_neg (by simp[h])]
  cases l with
  |nil=>rw[á]; rfl
  |cons i t =>
   have hx:=(adO h).2 i (by simp);have hg:L[i.toNat]?=some L[i.toNat]:=List.getElem?_eq_getElem hx.2;generalize L[i.toNat]=x at hg;rw[á,Ð (beq_eq_false_iff_ne.2 (by simp; omega)),aji,jv hx.1 hg,ahU hS x.1 h,À];dsimp only;rw[hg];dsimp only[Option.getD_some];generalize Co L x.1 0 (i::t)=w;obtain⟨e,sum,ok⟩:=w;unfold am8;dsimp only
   cases ok with
   |false=>rw[Ó (by rfl),if_neg (by simp)]
   |true =>
    rw[Ð (by rfl)]
    by_cases h2:e=x.1
    ·rw[Ð (by rw[h2]; exact bne_self_eq_false' _)]
     by_cases h3:sum<0
     ·rw[Ð (decide_eq_false (by omega)),if_pos ⟨rfl,h2,h3⟩]
     ·rw[Ó (decide_eq_true (by omega)),if_neg (fun h=>h3 h.2.2)]
    ·rw[Ó (bne_iff_ne.2 h2),if_neg (fun h=>h2 h.2.1)]
 ·rw[Ó (bne_iff_ne.2 h),if_pos h]
end
def oV (c:amP):Int :=
 if ç c.1≠0 then ç c.1 else if jH c.1 c.2.1.1 c.2.1.2=0 then 5 else
 if c.2.2.1 then(if Δ (Ý c.1) 0 (jH c.1 c.2.1.1 c.2.1.2) c.2.2.2.2=(c.2.2.2.1,0) then 0 else 8)
 else(if Δ (Ý c.1) (jH c.1 c.2.1.1 c.2.1.2) 0 c.2.2.2.2=(-c.2.2.2.1,0) then 0 else 8)
def pY (c:amP):Int :=
 if ç c.1≠0 then ç c.1 else if c.2.1≠(0,0)∨c.2.2.1=true∨c.2.2.2.1≠0 then 1 else if wc (Ý c.1) c.2.2.2.2=0 then 0 else 8
def aeq (b:Þ) (c:amP):Bool×Int :=
 if ç b≠0 then(false,ç b) else
 if c.2.1=(0,0) then(if pY c≠0 then(false,pY c) else(alt c.1 b,0)) else(if oV c≠0 then(false,oV c) else(alt c.1 b,0))
def wr_neg {n:Int} (h:I64 n):ang (0-n)=if n = -9223372036854775808 then n else -n:=by
 have e:ang (0-n)=if (0-n) % 18446744073709551616≥9223372036854775808 then(0-n) % 18446744073709551616-18446744073709551616 else(0-n) % 18446744073709551616:=by
  simp[ang,IntKind.wrap,IntKind.bits,IntKind.signed]
 rw[e];unfold I64 at h
 split<;>split<;>omega
def Lw {c:amP} (hI:In c.1) (hv:I64 c.2.2.2.1):lF c=some (oV c):=by
 unfold lF uQ oV;rw[i6 hI.size hI.num,À]
 by_cases hc:ç c.1=0
 ·have hg:=(ë c.1).1 hc;rw[Ð (by simp[ine,hc]),if_neg (show ¬(ç c.1≠0) from fun h=>h hc),Ru hI,À,DQ hg,pW hI,À,jm hg];dsimp only
  by_cases h0:jH c.1 c.2.1.1 c.2.1.2=0
  ·rw[if_pos h0,if_pos h0]; rfl
  ·have hN:=hg.sys;have hr:=ŝ c.1 c.2.1;have hz:=Ĩ c.1;rw[if_neg h0,if_neg h0,Ð (by rfl),show(((Ê c.1).length:Int)+1)=(((Ê c.1).length+1:Nat):Int) by push_cast; rfl];dsimp only;rw[show(∀f:Int→Option Int,ck (0-c.2.2.2.1) f=f (ang (0-c.2.2.2.1))) from fun f=>rfl,wr_neg hv]
   have key:∀(u v:Int) (t t':Int),(t'=t∨(t' = -9223372036854775808∧t=9223372036854775808))→(ifb (ine (Δ (Ý c.1) u v c.2.2.2.2).2 0) (some (8:Int)) (ifb (ine (Δ (Ý c.1) u v c.2.2.2.2).1 t') (some 8) (some 0)))=some (if Δ (Ý c.1) u v c.2.2.2.2=(t,0) then 0 else 8):=by
    intro u v t t' ht
    have hb : -9000000000000000000≤(Δ (Ý c.1) u v c.2.2.2.2).1∧(Δ (Ý c.1) u v c.2.2.2.2).1≤9000000000000000000:=by
     unfold Δ
     split
     ·simp
     ·rename_i hi
      split
      ·have:=ahV hN c.2.2.2.2 u 0 0 (by simp);have:=(adO (by simpa using hi)).1;dsimp only;omega
      ·simp
    generalize Δ (Ý c.1) u v c.2.2.2.2=p at hb ⊢
    by_cases h2:p.2=0
    ·rw[Ð (by rw[h2]; rfl)]
     by_cases h1:p.1=t'
     ·have:p=(t,0):=Prod.ext (by rcases ht with h|h<;>omega) h2
      rw[Ð (by rw[h1]; exact bne_self_eq_false' _),if_pos this]
     ·have:¬p=(t,0):=fun e=>by
       have e1:p.1=t:=by rw[e]
       rcases ht with h|h<;>omega
      rw[Ó (bne_iff_ne.2 h1),if_neg this]
    ·have:¬p=(t,0):=fun e=>h2 (by rw[e]);rw[Ó (bne_iff_ne.2 h2),if_neg this]
   unfold I64 at hv
   cases c.2.2.1 with
   |true =>
    rw[ğ,HN hN hz hr,À,key _ _ _ _ (.inl rfl)];rfl
   |false =>
    rw[é,HN hN hr hz,À,key _ _ (-c.2.2.2.1) _ (by split<;>omega)]
    rfl
 ·rw[Ó (by simp[ine,hc]),if_pos hc]
def YF {c:amP} (hI:In c.1):mK c=some (pY c):=by
 unfold mK rK pY;rw[i6 hI.size hI.num,À]
 by_cases hc:ç c.1=0
 ·have hg:=(ë c.1).1 hc;rw[Ð (by simp[ine,hc]),if_neg (show ¬(ç c.1≠0) from fun h=>h hc)]
  by_cases h1:c.2.1=(0,0)
  ·have e1:(!((Ŋ c.2.1.1 0)&&((Ŋ c.2.1.2 0)&&true)))=false:=by rw[h1]; rfl
   rw[e1,é]
   cases h2:c.2.2.1 with
   |true=>rw[ğ,if_pos (.inr (.inl rfl))]
   |false =>
    rw[é]
    by_cases h3:c.2.2.2.1=0
    ·rw[Ð (by rw[h3]; rfl),if_neg (by simp[h1,h3]),pW hI,À,jm hg,show(((Ê c.1).length:Int)+1)=(((Ê c.1).length+1:Nat):Int) by push_cast; rfl];dsimp only;rw[TG hg.sys,À]
     by_cases h4:wc (Ý c.1) c.2.2.2.2=0
     ·rw[Ð (by rw[h4]; rfl),if_pos h4]
     ·rw[Ó (bne_iff_ne.2 h4),if_neg h4]
    ·rw[Ó (bne_iff_ne.2 h3),if_pos (.inr (.inr h3))]
  ·have e1:(!((Ŋ c.2.1.1 0)&&((Ŋ c.2.1.2 0)&&true)))=true:=by
    rw[Prod.ext_iff] at h1;simp[Ŋ];dsimp only at h1;omega
   rw[e1,ğ,if_pos (.inl h1)]
 ·rw[Ó (by simp[ine,hc]),if_pos hc]
def akv {b:Þ} {c:amP} (hb:In b) (hI:In c.1) (hv:I64 c.2.2.2.1):Ak b c=some (aeq b c):=by
 unfold Ak IT aeq;rw[i6 hb.size hb.num,À]
 by_cases hc:ç b=0
 ·rw[Ð (by simp[ine,hc]),if_neg (show ¬(ç b≠0) from fun h=>h hc)]
  by_cases h1:c.2.1=(0,0)
  ·have e1:((Ŋ c.2.1.1 0)&&((Ŋ c.2.1.2 0)&&true))=true:=by rw[h1]; rfl
   rw[e1,ğ,if_pos h1,YF hI,À]
   by_cases h2:pY c=0
   ·rw[Ð (by rw[h2]; rfl),if_neg (by simp[h2]),part_ok hI.size hb.size,À]
   ·rw[Ó (bne_iff_ne.2 h2),if_pos h2]
  ·have e1:((Ŋ c.2.1.1 0)&&((Ŋ c.2.1.2 0)&&true))=false:=by
    rw[Prod.ext_iff] at h1;simp[Ŋ];dsimp only at h1;omega
   rw[e1,é,if_neg h1,Lw hI hv,À]
   by_cases h2:oV c=0
   ·rw[Ð (by rw[h2]; rfl),if_neg (by simp[h2]),part_ok hI.size hb.size,À]
   ·rw[Ó (bne_iff_ne.2 h2),if_pos h2]
 ·rw[Ó (by simp[ine,hc]),if_pos hc]
def Nv (b:Þ) (l:List Int):List (Int×Int):=l.map fun i=>(Ŭ b)[i.toNat]?.getD (0,0)
def agk {b:Þ} (hg:ē b) (hn:∀g∈b.2.1,I64 g.2.2.2.2.1.1) {l:List Int} (hl:l.length≤1000) (hi:∀i∈l,0≤i∧i.toNat<(Ý b).length):pM b l=some (Nv b l):=by
 unfold pM Da;rw[pW (hg.inn hn),À,jm hg];refine ð l (fun i=>Nv b (l.take i)) _ rfl (fun i a hlt ha kn=>?_) (fun kn=>?_)
 ·try dsimp only
  unfold mG;have hx:=hi a (List.mem_of_getElem? ha);have hs:(Ŭ b)[a.toNat]?=some ((Ŭ b)[a.toNat]'(by rw[Vm hg]; exact hx.2)):=List.getElem?_eq_getElem _;generalize (Ŭ b)[a.toNat]'(by rw[Vm hg]; exact hx.2)=x at hs
  have hlen:(Nv b (l.take i)).length≤1000:=by unfold Nv; rw[List.length_map,List.length_take]; omega
  rw[Ô hlt,Ë ha,jv hx.1 hs,ĝ (show å ((Nv b (l.take i)).length+[x].length)=true from Ö (show(Nv b (l.take i)).length+1≤4294967296 by omega)),Î hlt (by omega),take_succ ha];unfold Nv;rw[List.map_append,List.map_singleton,hs];rfl
 ·try dsimp only
  unfold mG;rw[à,List.take_length]
def src_ok {b:Þ}:∀s∈Ŭ b,aoh b s:=by
 intro s hs;unfold Ŭ at hs;rcases List.mem_append.1 hs with h|h
 ·have:=abp s h; exact .inl this
 ·have:=abM s h; exact .inr this
def ala {b:Þ} (hg:ē b) {l:List Int} (hi:∀i∈l,0≤i∧i.toNat<(Ý b).length):∀s∈Nv b l,aoh b s:=by
 intro s hs;obtain⟨i,h1,rfl⟩:=dT.1 hs;have hx:=hi i h1;have hsx:(Ŭ b)[i.toNat]?=some ((Ŭ b)[i.toNat]'(by rw[Vm hg]; exact hx.2)):=cI _;rw[hsx];exact src_ok _ (fg _)
section
variable {L:List Lk} {N:Nat}
def JD (R:Nat→List Int) (good:Int→Bool):∀(k:Nat) (u sum:Int) (out:List Int),(∀i∈out,0≤i∧i.toNat<L.length)→(∀i∈rY L R good k u sum out,0≤i∧i.toNat<L.length)∧(rY L R good k u sum out).length≤out.length+k
 |0,u,sum,out,h=>⟨h,by simp[rY]⟩
 |k+1,u,sum,out,h=>by
  unfold rY
  cases hn:RD L (R k) good u sum with
  |none =>
   have:=JD R good k u sum out h;exact⟨this.1,by have:=this.2; dsimp only; omega⟩
  |some i =>
   have hi:i<L.length:=by
    unfold RD at hn;exact(List.findIdx?_eq_some_iff_getElem.1 hn).1
   have:=JD R good k (L[i]?.getD (0,0,0)).2.1 (sum+(L[i]?.getD (0,0,0)).2.2) (out++[(i:Int)]) (fun j hj=>by
    rcases cQ.1 hj with h1|h1
    ·exact h j h1
    ·simp at h1; subst h1; simp; exact hi)
   exact⟨this.1,by have:=this.2; simp at this; dsimp only; omega⟩
def abP (N:Nat) (u v:Int):(∀i∈(Rv L N u v).1,0≤i∧i.toNat<L.length)∧(Rv L N u v).1.length≤N:=by
 unfold Rv
 split
 ·simp
 ·cases h:(nX L N v N).findIdx? (fun x=>gv x u==(ii L N u v).1) with
  |none=>simp
  |some k =>
   have hk:=(List.findIdx?_eq_some_iff_getElem.1 h).1;rw[kF] at hk;have:=JD (L:=L) (exL L N v) (fun n=>ieq n (ii L N u v).1) k u 0 [] (by simp);exact⟨this.1,by have:=this.2; simp at this; dsimp only; omega⟩
end
def Lr (B:Þ) (n:Int×Int) (upper:Bool):List Int :=
 if upper then(Rv (Ý B) ((Ê B).length+1) 0 (jH B n.1 n.2)).1 else(Rv (Ý B) ((Ê B).length+1) (jH B n.1 n.2) 0).1
def xf (B:Þ) (n:Int×Int) (upper:Bool):Þ:=cutP B (Nv B (Lr B n upper)) [n]
def certR (B:Þ) (n:Int×Int) (upper:Bool):amP:=(xf B n upper,n,upper,(if upper then(ivR B n).2 else(ivR B n).1),Lr (xf B n upper) n upper)
def oI (b:Þ) (n:Int×Int) (upper:Bool):amP×Int :=
 if (ý b [n]).2≠0 then(ajT,(ý b [n]).2) else
 if ç (xf (ý b [n]).1 n upper)≠0 then(ajT,ç (xf (ý b [n]).1 n upper)) else
 if ģ (Ý (xf (ý b [n]).1 n upper)) ((Ê (xf (ý b [n]).1 n upper)).length+1) then(certR (ý b [n]).1 n upper,0) else(ajT,9)
def ahe {ρ:Type}:@rM ρ=@ą ρ:=rfl
def aiy {ρ:Type} (K:Option ρ):Ò (fun(v23:Int) kk25=>rL (0:Int) v23 (fun u24=>kk25 u24) (fun _=>K)) (0:Int)=K:=by
 refine ń (fun x=>x=0) (fun _=>0) (fun x hx=>.inl fun kn=>?_) rfl;rw[hx];rfl
def aeD {B:Þ} (h:ē B) (hn:∀g∈B.2.1,I64 g.2.2.2.2.1.1) (n:Int×Int) (upper:Bool):lG (B,DR B) n upper=some (Lr B n upper):=by
 unfold lG uR Lr;rw[Lu h hn,À,show(B,DR B).2=DR B from rfl,Cp]
 cases upper with
 |true=>rw[ğ,agb h.sys (Ĩ B) (ŝ B n),À]; rfl
 |false=>rw[é,agb h.sys (ŝ B n) (Ĩ B),À]; rfl
def ahc {B:Þ} (h:ē B) (n:Int×Int) (upper:Bool):(∀i∈Lr B n upper,0≤i∧i.toNat<(Ý B).length)∧(Lr B n upper).length≤60:=by
 have hN:=h.sys.n60;unfold Lr
 split
 ·have:=abP (L:=Ý B) ((Ê B).length+1) 0 (jH B n.1 n.2);exact⟨this.1,by have:=this.2; omega⟩
 ·have:=abP (L:=Ý B) ((Ê B).length+1) (jH B n.1 n.2) 0;exact⟨this.1,by have:=this.2; omega⟩
def Qu (w:List Int):∀(l:List Cmp) (i:Nat),∀c∈DE w i l,c∈l
 |[],i,c,h=>by simp[DE] at h
 |a::l,i,c,h=>by
  simp only[DE] at h
  split at h
  ·rcases cW.1 h with h|h
   ·rw[h]; simp
   ·exact f9 _ (Qu w l (i+1) c h)
  ·exact f9 _ (Qu w l (i+1) c h)
def am3 {b:Þ} (h:In b) (ss:List (Int×Int)) {looks:List (Int×Int)} (hl:looks.length≤1000):In (cutP b ss looks):=by
 obtain⟨hs,hn⟩:=h;have g1:=hs.gauges; have g2:=hs.uses; have g3:=hs.loans; have g4:=hs.compares;unfold cutP;refine⟨⟨?_,?_,?_,?_,hl,fun c hc=>hs.piles c (Qu _ _ _ c hc)⟩,fun g hg=>hn g (List.mem_filter.1 hg).1⟩
 ·exact du (dA _ _) g1
 ·exact du (dA _ _) g2
 ·exact du (dA _ _) g3
 ·exact du (Qv _ _ _) g4
def ahI {b:Þ} (hI:In b) (n:Int×Int) (upper:Bool):vL b n upper=some (oI b n upper):=by
 unfold vL Dk oI;rw[ahe];refine(qj hI (ns:=[n]) (by simp) (fun e=>some (ajT,e)) (fun e he=>by rw[ĝ (by simp[ine,he])]; rfl) (fun z he=>by rw[ĝ (by simp[ine,he])]; rfl) (fun _ _ _=>rfl)).trans ?_
 split
 ·rfl
 ·rename_i e;have hr:=(kO hI (by simpa using e)).1;dsimp only;generalize (ý b [n]).1=B at hr ⊢;have hci:=ahc hr.good n upper;have hpi:In (xf B n upper):=am3 (hr.good.inn hr.num) _ (by simp)
  rw[vC,show((((Ê B).length:Int)+1,Ý B):Sys)=DR B from rfl,aeD hr.good hr.num,À,agk hr.good hr.num (by omega) hci.1,À,
   cut_ok hr.good.size (by unfold Nv; rw[List.length_map]; omega) (by simp) (ala hr.good hci.1),À,show cutP B (Nv B (Lr B n upper)) [n]=xf B n upper from rfl,i6 hpi.size hpi.num,À]
  by_cases hc:ç (xf B n upper)=0
  ·have hg:=(ë _).1 hc;rw[Ð (by simp[ine,hc]),if_neg (show ¬(ç (xf B n upper)≠0) from fun h=>h hc)];refine(aiy _).trans ?_;rw[pW hpi,À,jm hg,Ð (by rfl)];dsimp only;rw[show((((Ê (xf B n upper)).length:Int)+1,Ý (xf B n upper)):Sys)=DR (xf B n upper) from rfl,Cp (xf B n upper),HM hg.sys,À]
   cases ho:ģ (Ý (xf B n upper)) ((Ê (xf B n upper)).length+1) with
   |false=>rw[if_neg (by simp)]; rfl
   |true =>
    rw[if_pos rfl,←Cp (xf B n upper),Ð (by rfl),UK hr,À,aeD hg hpi.num,À]
    cases upper with
    |true=>rw[ğ,G2 hr,À]; rfl
    |false=>rfl
  ·rw[Ó (by simp[ine,hc]),if_pos hc,Ó (by simp[ine,hc])];rfl
def ag9 {L:List Lk} {N:Nat} (h:į L N) (ho:ģ L N=true):zk ((N:Int),L)=some ([],5):=by
 have hN:=h.n60;unfold zk PK;rw[lL h,À,Ð (by rfl),Cs h.links h.n1 (by omega),À,if_pos ho];rfl
def acG {b:Þ} (hg:ē b) (hn:∀g∈b.2.1,I64 g.2.2.2.2.1.1) (ho:ģ (Ý b) ((Ê b).length+1)=true):Hk b=some (ajT,5):=by
 unfold Hk Pv;rw[pW (hg.inn hn),À,jm hg,Ð (by rfl),show((((Ê b).length:Int)+1,Ý b),Ŭ b,(0:Int)).1=DR b from rfl,Cp,ag9 hg.sys ho,À];rfl
def ajP {k:Int×Int} (hk:0<k.2) (m n:Int):0<am6 (Et k m) (Et k n)↔k.1*n<k.1*m:=by
 obtain⟨g,g0,_,g1,g2⟩:=zI (n:=k.1*m) hk;obtain⟨h,h0,_,h1,h2⟩:=zI (n:=k.1*n) hk
 have key:(Et k n).1*(Et k m).2<(Et k m).1*(Et k n).2↔k.1*n<k.1*m:=by
  have e1:(Et k n).1*(Et k m).2*((g:Int)*h)=k.1*n*k.2:=by
   show(nz (k.1*n) k.2).1*(nz (k.1*m) k.2).2*((g:Int)*h)=k.1*n*k.2
   calc _=((nz (k.1*n) k.2).1*h)*((nz (k.1*m) k.2).2*g):=by ac_rfl
    _=_:=by rw[←h1,←g2]
  have e2:(Et k m).1*(Et k n).2*((g:Int)*h)=k.1*m*k.2:=by
   show(nz (k.1*m) k.2).1*(nz (k.1*n) k.2).2*((g:Int)*h)=k.1*m*k.2
   calc _=((nz (k.1*m) k.2).1*g)*((nz (k.1*n) k.2).2*h):=by ac_rfl
    _=_:=by rw[←g1,←h2]
  have pg:0<(g:Int)*h:=Int.mul_pos (by omega) (by omega);constructor
  ·intro hl;have:=Int.mul_lt_mul_of_pos_right hl pg;rw[e1,e2] at this;exact Int.lt_of_mul_lt_mul_right this (by omega)
  ·intro hl;have:=Int.mul_lt_mul_of_pos_right hl hk;rw[←e1,←e2] at this;exact Int.lt_of_mul_lt_mul_right this (by omega)
 rw[←key];unfold am6
 by_cases he:Et k m=Et k n
 ·rw[if_pos he,he];omega
 ·rw[if_neg he]
  split
  ·omega
  ·split<;>omega
def agv {k:Int×Int} (hk:0<k.2) {heat:Int×Int} (hh:heat.1≤heat.2):VL k heat=if k.1<0 then(Et k heat.2,Et k heat.1) else(Et k heat.1,Et k heat.2):=by
 unfold VL
 by_cases hn:k.1<0
 ·rw[if_pos hn]
  by_cases he:heat.1=heat.2
  ·rw[he]
   split<;>rfl
  ·rw[if_pos ((ajP hk _ _).2 (Int.mul_lt_mul_of_neg_left (by omega) hn))]
 ·rw[if_neg hn,if_neg (fun h=>by
   have h1:=(ajP hk _ _).1 h;have h2:=Int.mul_le_mul_of_nonneg_left hh (show 0≤k.1 by omega)
   omega)]
def gv_bd {x:List Int} {m:Int} (hm:0≤m) (h:∀a∈x,-m≤a∧a≤m) (v:Int) : -m≤gv x v∧gv x v≤m:=by
 unfold gv
 cases hv:x[v.toNat]? with
 |none=>simp only[gG]; omega
 |some a=>simp only[fh]; exact h a (cR hv)
section
variable {b:Þ} {c d:Cmp} {s:Int×Int}
def anv (h:Pred b c s) : -10000000000000000≤s.1∧s.1≤s.2∧s.2≤10000000000000000:=by
 have q:=h.good2.cmp (zL (c:=É c));obtain⟨_,_,b1,b2,b3⟩:=xa (b:=b) h.good.film (c:=É c) ⟨q.nums,q.r1,q.r2⟩;have e1:adJ b c=JQ (Ņ b (É c)).1+(jD b (É c)).1-(É c).2.2.2.2.2.1:=rfl;have e2:DG b c=(Ņ b (É c)).2.1 / (Ņ b (É c)).2.2+(jD b (É c)).2+(É c).2.2.2.2.2.1:=rfl;have o:=h.order;have n:=h.ends;have bd:=h.bd;omega
end
def χ (e:End):List Int:=[e.1-e.2.1,e.2.2-e.1,Int.tdiv (e.2.2-e.2.1) 2,Int.tdiv (e.2.2-e.2.1) 2-1,Int.tdiv (e.2.2-e.2.1) 2+1]
def sw (e:End) (n:Int):List Int:=[n-e.2.1,e.2.2-n]
def atE (e:End) (d:Int):Int:=min e.1 (min (e.2.1+d) (e.2.2-d))
def Nx (w:JY) (d:Int):Int×Int:=(-(atE w.2.2 d),atE w.2.1 d)
def agW (r:Int×Int) (n:Int):List Int:=[n-2,n-1,n,n+1,n+2].filter fun d=>decide (r.1<d)&&decide (d<r.2)
def RE (r:Int×Int) (l:List Int):List Int:=[r.1,r.2]++l.flatMap (agW r)
def aeA (w:JY) (l:List Int):Int:=l.foldl (fun m d=>max m ((Nx w d).2-(Nx w d).1)) (-1)
def ahS (w:JY):Int:=aeA w (RE w.1 (χ w.2.1++χ w.2.2))
def Sm (n:Int):Prop:=-100000000000000000≤n∧n≤100000000000000000
structure YD (e:End):Prop where
 s:Sm e.1
 u:Sm e.2.1
 d:Sm e.2.2
structure Yy (w:JY):Prop where
 lo:Sm w.1.1
 hi:Sm w.1.2
 high:YD w.2.1
 low:YD w.2.2
def YT (n:Int) : -1≤n-2*Int.tdiv n 2∧n-2*Int.tdiv n 2≤1:=by
 have h1:=Int.tmod_add_mul_tdiv n 2;have h2:=Int.tmod_two_eq n;omega
def MN {e:End} (h:YD e):iH e=some (χ e):=by
 obtain⟨⟨a1,a2⟩,⟨b1,b2⟩,c1,c2⟩:=h;have h2:=YT (e.2.2-e.2.1);unfold iH uI;rw[Õ (by omega) (by omega),Õ (by omega) (by omega),Õ (by omega) (by omega),Õ (by omega) (by omega),Õ (by omega) (by omega),Õ (by omega) (by omega)];rfl
def MX {e:End} (h:YD e) {n:Int} (hn : -1000000000000000000≤n∧n≤1000000000000000000):iI e n=some (sw e n):=by
 obtain⟨⟨a1,a2⟩,⟨b1,b2⟩,c1,c2⟩:=h;unfold iI uJ;rw[Õ (by omega) (by omega),Õ (by omega) (by omega)];rfl
def ane {e:End} (h:YD e) {d:Int} (hd:Sm d):tN e d=some (atE e d):=by
 obtain⟨⟨a1,a2⟩,⟨b1,b2⟩,c1,c2⟩:=h;obtain⟨d1,d2⟩:=hd;unfold tN IP;rw[Õ (by omega) (by omega),Õ (by omega) (by omega),vx,vx];unfold atE;congr 1;omega
def akp {e:End} (h:YD e) {d:Int} (hd:Sm d) : -200000000000000000≤atE e d∧atE e d≤100000000000000000:=by
 obtain⟨⟨a1,a2⟩,⟨b1,b2⟩,c1,c2⟩:=h;obtain⟨d1,d2⟩:=hd;unfold atE;omega
def ah5 {w:JY} (h:Yy w) {d:Int} (hd:Sm d):ŗ w d=some (Nx w d):=by
 unfold ŗ rB;have b1:=akp h.low hd;rw[ane h.low hd,À,Õ (by omega) (by omega),ane h.high hd,À];unfold Nx;rw[Int.zero_sub]
def alX (r:Int×Int) (n:Int):(agW r n).length≤5:=dA _ _
def QH (r:Int×Int):∀l:List Int,(l.flatMap (agW r)).length≤l.length*5
 |[]=>by simp
 |n::l=>by
  have h1:=alX r n;have h2:=QH r l;rw[dP,cN,cX];omega
def anH {ρ:Type} (r:Int×Int) {n:Int} (hn : -4000000000000000000≤n∧n≤4000000000000000000) {out:List Int} (ho:out.length≤1000) (K:List Int→Option ρ) :
 Ò (fun(v9:(Val (.pair tI (.slice tI)))) kk12=>g9 n r.1 r.2 v9.1 v9.2 (fun u10 u11=>kk12 (u10,u11)) K) (n-2,out)=K (out++agW r n):=by
 let five:List Int:=[n-2,n-1,n,n+1,n+2]
 have hg:∀(i:Nat),i<5→five[i]?=some (n-2+i):=by
  intro i hi
  have:i=0∨i=1∨i=2∨i=3∨i=4:=by omega
  rcases this with rfl|rfl|rfl|rfl|rfl<;>simp only[five,eX,List.getElem?_cons_succ]<;>congr 1<;>omega
 refine ń (fun v=>∃i:Nat,i≤5∧v=(n-2+(i:Int),out++(five.take i).filter fun d=>decide (r.1<d)&&decide (d<r.2))) (fun v=>(n+3-v.1).toNat) ?_ ⟨0,by omega,by simp⟩;rintro v ⟨i,hi,rfl⟩;rcases dv i 5 with h5|h5
 ·refine .inr ⟨(n-2+((i+1:Nat):Int),out++(five.take (i+1)).filter fun d=>decide (r.1<d)&&decide (d<r.2)),⟨i+1,h5,rfl⟩,by dsimp only; omega,fun kn=>?_⟩;have hl:((five.take i).filter fun d=>decide (r.1<d)&&decide (d<r.2)).length≤5:=pH _ five i;dsimp only;unfold g9;rw[Õ (by omega) (by omega),Ó (decide_eq_true (by omega)),take_succ (hg i h5),List.filter_append]
  have e0:n-2+(i:Int)+1=n-2+((i+1:Nat):Int):=by push_cast; omega
  by_cases h1:r.1<n-2+(i:Int)
  ·rw[Ó (show igt (n-2+(i:Int)) r.1=true from decide_eq_true h1)]
   by_cases h2:n-2+(i:Int)<r.2
   ·rw[Ó (show ilt (n-2+(i:Int)) r.2=true from decide_eq_true h2),ĝ (Ö (by rw[cN]; simp only[dC]; omega)),Õ (by omega) (by omega),e0];simp[h1,h2]
   ·rw[Ð (show ilt (n-2+(i:Int)) r.2=false from decide_eq_false h2),Õ (by omega) (by omega),e0];simp[h1,h2]
  ·rw[Ð (show igt (n-2+(i:Int)) r.1=false from decide_eq_false h1),Õ (by omega) (by omega),e0];simp[h1]
 ·refine .inl fun kn=>?_
  obtain rfl:i=5:=by omega
  dsimp only;unfold g9;rw[Õ (by omega) (by omega),Ð (decide_eq_false (by omega))];rfl
def aiK (w:JY) {l:List Int} (hl:l.length≤100) (hn:∀n∈l,-2000000000000000000≤n∧n≤2000000000000000000):jT w l=some (RE w.1 l):=by
 unfold jT rC;refine ð l (fun i=>[w.1.1,w.1.2]++(l.take i).flatMap (agW w.1)) _ rfl (fun i n hi ha kn=>?_) (fun kn=>?_)
 ·try dsimp only
  unfold jt;have hb:=hn n (List.mem_of_getElem? ha);have h5:=QH w.1 (l.take i)
  have ht:(l.take i).length≤100:=by rw[cZ]; omega
  rw[Ô hi,Ë ha,Õ (by omega) (by omega)];refine(anH w.1 (by omega) (by rw[cN]; simp only[cX,dk]; omega) _).trans ?_;rw[Î hi (by omega),take_succ ha,eJ,di];simp
 ·try dsimp only
  unfold jt;rw[à,List.take_length];rfl
def alA {r:Int×Int} {l:List Int} {d:Int}:d∈RE r l↔d=r.1∨d=r.2∨(r.1<d∧d<r.2∧∃n∈l,n-2≤d∧d≤n+2):=by
 unfold RE agW;simp only[List.mem_append,List.mem_cons,List.not_mem_nil,or_false,List.mem_flatMap,List.mem_filter,Bool.and_eq_true,decide_eq_true_eq];constructor
 ·rintro((h|h)|⟨n,hn,h,h1,h2⟩)
  ·exact .inl h
  ·exact .inr (.inl h)
  ·exact .inr (.inr ⟨h1,h2,n,hn,by omega,by omega⟩)
 ·rintro(h|h|⟨h1,h2,n,hn,h3,h4⟩)
  ·exact .inl (.inl h)
  ·exact .inl (.inr h)
  ·exact .inr ⟨n,hn,by omega,h1,h2⟩
def afg (r:Int×Int) {l:List Int} (hl:l.length≤100):(RE r l).length≤600:=by
 have:=QH r l;unfold RE;rw[List.length_append];simp only[List.length_cons,List.length_nil];omega
def aiJ {w:JY} (h:Yy w) {l:List Int}:∀d∈RE w.1 l,Sm d:=by
 intro d hd;obtain⟨a1,a2⟩:=h.lo;obtain⟨b1,b2⟩:=h.hi;rcases alA.1 hd with h|h|⟨h1,h2,_⟩
 ·rw[h]; exact⟨a1,a2⟩
 ·rw[h]; exact⟨b1,b2⟩
 ·exact⟨by omega,by omega⟩
def MO {e:End} (h:YD e):∀n∈χ e,-1000000000000000000≤n∧n≤1000000000000000000:=by
 obtain⟨⟨a1,a2⟩,⟨b1,b2⟩,c1,c2⟩:=h;have h2:=YT (e.2.2-e.2.1);intro n hn;unfold χ at hn;simp only[List.mem_cons,List.not_mem_nil,or_false] at hn;omega
def akV {w:JY} (h:Yy w):lC w=some (ahS w):=by
 unfold lC pl
 have hl:([χ w.2.1,χ w.2.2]:List (List Int)).flatten=χ w.2.1++χ w.2.2:=by simp
 have hll:(χ w.2.1++χ w.2.2).length=10:=rfl
 rw[MN h.high,À,MN h.low,À,oU (by simp) (by rw[hl,hll]; omega),À,hl,aiK w (by rw[hll]; omega) (fun n hn=>by
  rcases cQ.1 hn with hn|hn
  ·have:=MO h.high n hn; omega
  ·have:=MO h.low n hn; omega),À]
 have hnl:=afg w.1 (l:=χ w.2.1++χ w.2.2) (by rw[hll]; omega);have hsm:=aiJ h (l:=χ w.2.1++χ w.2.2);unfold ahS;generalize RE w.1 (χ w.2.1++χ w.2.2)=l at hnl hsm ⊢;refine ń (fun v=>∃i:Nat,i≤l.length∧v=(aeA w (l.take i),(i:Int))) (fun v=>l.length-v.2.toNat) ?_ ⟨0,by omega,rfl⟩;rintro v ⟨i,hi,rfl⟩;rcases Nat.lt_or_ge i l.length with h2|h2
 ·have ha:l[i]?=some l[i]:=List.getElem?_eq_getElem h2;have hs:=hsm l[i] (List.getElem_mem _);generalize l[i]=d at ha hs;refine .inr ⟨(aeA w (l.take (i+1)),((i+1:Nat):Int)),⟨i+1,h2,rfl⟩,by dsimp only; omega,fun kn=>?_⟩;dsimp only;unfold iZ;have b1:=akp h.low hs;have b2:=akp h.high hs;rw[Ô h2,Ë ha,show ŗ ((w.1.1,w.1.2),(w.2.1.1,w.2.1.2.1,w.2.1.2.2),w.2.2.1,w.2.2.2.1,w.2.2.2.2) d=ŗ w d from rfl,ah5 h hs,À,Õ (by unfold Nx; dsimp only; omega) (by unfold Nx; dsimp only; omega),Î h2 (by omega),XV,take_succ ha];unfold aeA;rw[List.foldl_append];rfl
 ·refine .inl fun kn=>?_
  obtain rfl:i=l.length:=by omega
  dsimp only;unfold iZ;rw[à,List.take_length]
def aez {b:Þ} {n:Int×Int} {c:Cmp} (hp:(Ľ b c).2=0):Yy (YI b n c):=by
 obtain⟨g1,g2⟩:=oH hp;have ho:=J9 hp;have hb:=anv (Ze hp);have hx:=Ci g2;have hy:=Ch g2;have b6:=aic g1 g2 ho
 have key:∀{s t:Int},0≤s∧s<((Ê (ì b (É c))).length+1:Nat)→0≤t∧t<((Ê (ì b (É c))).length+1:Nat)→YD (endP b (É c) s t):=by
  intro s t hs ht;have b1:=rX g1 g2 ho hs ht;have b2:=rX g1 g2 ho hs hy;have b3:=rX g1 g2 ho hx ht;have b4:=rX g1 g2 ho hs hx;have b5:=rX g1 g2 ho hy ht;unfold endP;exact⟨⟨by dsimp only; omega,by dsimp only; omega⟩,⟨by dsimp only; omega,by dsimp only; omega⟩,by dsimp only; omega,by dsimp only; omega⟩
 exact⟨⟨by show _≤(Ľ b c).1.1; omega,by show(Ľ b c).1.1≤_; omega⟩,⟨by show _≤(Ľ b c).1.2; omega,by show(Ľ b c).1.2≤_; omega⟩,key (Ĩ _) (ŝ _ n),key (ŝ _ n) (Ĩ _)⟩
def af2 (b:Þ) (n:Int×Int) (c:Cmp):Int×Int :=
 if (ý b [n]).2≠0 then(0,(ý b [n]).2) else if (Ľ (ý b [n]).1 c).2≠0 then(0,(Ľ (ý b [n]).1 c).2) else(ahS (YI (ý b [n]).1 n c),0)
def akW {ρ:Type}:@yn ρ=@ą ρ:=rfl
def amE {b:Þ} (hI:In b) (n:Int×Int) {c:Cmp} (hA:c.2.2.1.length≤1000) (hB:c.2.2.2.1.length≤1000):zf b n c=some (af2 b n c):=by
 unfold zf Pn af2;rw[akW];refine(qj hI (ns:=[n]) (by simp) (fun e=>some ((0:Int),e)) (fun e he=>by rw[ĝ (by simp[ine,he])]) (fun z he=>by rw[ĝ (by simp[ine,he])]) (fun _ _ _=>rfl)).trans ?_
 split
 ·rfl
 ·rename_i e;have hr:=(kO hI (by simpa using e)).1;dsimp only;rw[vC,show((((Ê (ý b [n]).1).length:Int)+1,Ý (ý b [n]).1):Sys)=DR (ý b [n]).1 from rfl,abh hr n hA hB,À];unfold XS
  by_cases hp:(Ľ (ý b [n]).1 c).2=0
  ·rw[if_neg (by simp[hp]),if_neg (by simp[hp]),Ð (by rfl),akV (aez hp),À]
  ·rw[if_pos hp,if_pos hp,Ó (bne_iff_ne.2 hp)]
def ahL (x:Int):Int:=max (-288230376151711744) (min x 288230376151711744)
def Cu (w:JY) (l:Int×Int):List Int:=(χ w.2.1++χ w.2.2)++(sw w.2.1 l.1++sw w.2.2 (-l.1))++(sw w.2.1 l.2++sw w.2.2 (-l.2))
def aeS (w:JY) (l:Int×Int):Bool:=(RE w.1 (Cu w l)).all fun d=>Ĺ (Nx w d) l != 3
def Nk (b:Þ) (n l:Int×Int) (c:Cmp):Bool×Int :=
 if (ý b [n]).2≠0 then(false,(ý b [n]).2) else if l.2<l.1 then(false,1) else if (Ľ (ý b [n]).1 c).2≠0 then(false,(Ľ (ý b [n]).1 c).2) else(aeS (YI (ý b [n]).1 n c) (ahL l.1,ahL l.2),0)
def agm {ρ:Type}:@rI ρ=@ą ρ:=rfl
def am1 (x:Int):lE x=some (ahL x):=by
 unfold lE uN ahL;rw[vx,XV]
def MY {e:End} (h:YD e) {n:Int} (hn : -300000000000000000≤n∧n≤300000000000000000):∀m∈sw e n,-1000000000000000000≤m∧m≤1000000000000000000:=by
 obtain⟨⟨a1,a2⟩,⟨b1,b2⟩,c1,c2⟩:=h;intro m hm;unfold sw at hm;simp only[List.mem_cons,List.not_mem_nil,or_false] at hm;omega
def ahy {b:Þ} (hI:In b) (n l:Int×Int) {c:Cmp} (hA:c.2.2.1.length≤1000) (hB:c.2.2.2.1.length≤1000):pN b n l c=some (Nk b n l c):=by
 unfold pN Di Nk;rw[agm];refine(qj hI (ns:=[n]) (by simp) (fun e=>some (false,e)) (fun e he=>by rw[Ó (by simp[ine,he])]) (fun z he=>by rw[Ó (by simp[ine,he])]) (fun _ _ _=>rfl)).trans ?_
 split
 ·rfl
 ·rename_i e;have hr:=(kO hI (by simpa using e)).1;dsimp only
  by_cases hl:l.2<l.1
  ·rw[Ó (by simp[igt,hl]),if_pos hl]
  ·rw[Ð (by simp[igt]; omega),if_neg hl,vC,show((((Ê (ý b [n]).1).length:Int)+1,Ý (ý b [n]).1):Sys)=DR (ý b [n]).1 from rfl,abh hr n hA hB,À];unfold XS
   by_cases hp:(Ľ (ý b [n]).1 c).2=0
   ·rw[if_neg (by simp[hp]),if_neg (by simp[hp]),Ð (by rfl)];have hw:=aez (n:=n) hp;dsimp only;generalize YI (ý b [n]).1 n c=w at hw ⊢
    have f1 : -300000000000000000≤ahL l.1∧ahL l.1≤300000000000000000:=by unfold ahL; omega
    have f2 : -300000000000000000≤ahL l.2∧ahL l.2≤300000000000000000:=by unfold ahL; omega
    have q1:([χ w.2.1,χ w.2.2]:List (List Int)).flatten=χ w.2.1++χ w.2.2:=by simp
    have q2:∀x y z:List Int,([x,y,z]:List (List Int)).flatten=x++(y++z):=by intro x y z; simp
    rw[MN hw.high,À,MN hw.low,À,oU (by simp) (by rw[q1]; simp[χ]),À,q1,am1,À,am1,À];generalize ahL l.1=l1 at f1 ⊢;generalize ahL l.2=l2 at f2 ⊢
    rw[MX hw.high (by omega),À,Õ (by omega) (by omega),Int.zero_sub,MX hw.low (by omega),À,oU (by simp) (by rw[q2]; simp[χ,sw]),À,q2,
     MX hw.high (by omega),À,Õ (by omega) (by omega),Int.zero_sub,MX hw.low (by omega),À,oU (by simp) (by rw[q2]; simp[χ,sw]),À,q2]
    have hll:(Cu w (l1,l2)).length=18:=rfl;have qs:χ w.2.1++χ w.2.2++(sw w.2.1 l1++sw w.2.2 (-l1))++(sw w.2.1 l2++sw w.2.2 (-l2))=Cu w (l1,l2):=rfl
    rw[qs,aiK w (by rw[hll]; omega) (fun m hm=>by
     unfold Cu at hm;simp only[List.mem_append] at hm;rcases hm with((hm|hm)|(hm|hm))|(hm|hm)
     ·have:=MO hw.high m hm; omega
     ·have:=MO hw.low m hm; omega
     ·have:=MY hw.high f1 m hm; omega
     ·have:=MY hw.low (n:=-l1) (by omega) m hm; omega
     ·have:=MY hw.high f2 m hm; omega
     ·have:=MY hw.low (n:=-l2) (by omega) m hm; omega),À]
    have hnl:=afg w.1 (l:=Cu w (l1,l2)) (by rw[hll]; omega);have hsm:=aiJ hw (l:=Cu w (l1,l2));unfold aeS;generalize RE w.1 (Cu w (l1,l2))=ds at hnl hsm ⊢;refine(Ļ ds (fun d=>Ĺ (Nx w d) (l1,l2)==3) (fun z30=>some ((!(ige z30 (0:Int))),(0:Int))) (some (false,0)) (some (true,0)) (fun j=>by rw[show ige (j:Int) 0=true from decide_eq_true (by omega)]; rfl) (fun i d hi hd kn=>?_) (fun kn=>?_)).trans ?_
    ·try dsimp only
     unfold mH;rw[Ô hi,Ë hd,show ŗ ((w.1.1,w.1.2),(w.2.1.1,w.2.1.2.1,w.2.1.2.2),w.2.2.1,w.2.2.2.1,w.2.2.2.2) d=ŗ w d from rfl,ah5 hw (hsm d (List.mem_of_getElem? hd)),À,TH,À,Î hi (by omega),Ĥ]
    ·try dsimp only
     unfold mH;rw[à]
    ·rw[show(fun d=>Ĺ (Nx w d) (l1,l2) != 3)=(fun d=>!(Ĺ (Nx w d) (l1,l2)==3)) from rfl,←List.not_any_eq_all_not]
     cases ds.any fun d=>Ĺ (Nx w d) (l1,l2)==3<;>rfl
   ·rw[if_pos hp,if_pos hp,Ó (bne_iff_ne.2 hp)]
def HK (b:Þ) (n:Int×Int):Prop:=∃g∈b.2.1,g.1=n.1∧n.2∈ß b g
theorem XW {b:Þ} (h:ē b) {n:Int×Int}:jH b n.1 n.2≠0↔HK b n:=by
 unfold jH;constructor
 ·intro hne
  cases hx:ix (Ê b) n.1 n.2 with
  |none=>rw[hx] at hne; simp at hne
  |some j =>
   have hm:=List.mem_of_getElem? (ku hx).2;unfold Ê at hm;obtain⟨g,hg,hd⟩:=List.mem_flatMap.1 hm;obtain⟨d,hd,e⟩:=List.mem_map.1 hd;simp only[Prod.mk.injEq] at e;obtain⟨e1,rfl⟩:=e;exact⟨g,hg,e1,hd⟩
 ·rintro⟨g,hg,e,hd⟩;obtain⟨i,hi,rfl⟩:=List.mem_iff_getElem.1 hg;obtain⟨k,hk,e2⟩:=List.mem_iff_getElem.1 hd;rw[←e,VQ h (List.getElem?_eq_getElem hi) (by rw[List.getElem?_eq_getElem hk,e2])];dsimp only;omega
theorem ajJ (b:Þ) (n:Int×Int) (g:ê) {d:Int} (hd:d∈ß b g):d∈ß (jg b n) g:=by
 unfold ß at hd ⊢;rw[qf] at hd ⊢;unfold X9 jg at *;simp only[List.mem_append,List.mem_map,List.mem_filter] at hd ⊢;rcases hd with(h|h)|⟨m,⟨h1,h2⟩,h3⟩
 ·exact .inl (.inl h)
 ·exact .inl (.inr h)
 ·exact .inr ⟨m,⟨.inl h1,h2⟩,h3⟩
theorem aiZ {b:Þ} (n:Int×Int) (h':ē (jg b n)):HK (jg b n) n:=by
 have hu:=h'.looks n (by simp[jg]);unfold agf at hu
 split at hu
 ·omega
 obtain⟨g,hg,_⟩:=Ie h' hu;obtain⟨hm,e⟩:=nk hg;refine⟨g,hm,e,?_⟩;unfold ß;rw[qf];unfold X9 jg;simp only[List.mem_append,List.mem_map,List.mem_filter];exact .inr ⟨n,⟨.inr (by simp),by simp[e]⟩,rfl⟩
theorem Nt {b:Þ} {n:Int×Int} (e:(jJ b n).2=0):(jJ b n=(b,0)∧jH b n.1 n.2≠0)∨(jJ b n=(jg b n,0)∧ē (jg b n)∧jH b n.1 n.2=0):=by
 unfold jJ at e ⊢
 split
 ·rename_i h; exact .inl ⟨rfl,h⟩
 ·rename_i h1;rw[if_neg h1] at e
  split
  ·rename_i h2; rw[if_pos h2] at e; exact absurd e h2
  ·rename_i h2; exact .inr ⟨rfl,(ë _).1 (by simpa using h2),by simpa using h1⟩
theorem Y8:∀{ns:List (Int×Int)} {b:Þ},(ŏ b ns).2=0→∀n,HK b n→HK (ŏ b ns).1 n
 |[],b,_,n,hn=>hn
 |m::t,b,e,n,hn=>by
  unfold ŏ at e ⊢
  split
  ·rename_i h1; rw[if_pos h1] at e; exact absurd e h1
  ·rename_i h1;rw[if_neg h1] at e;refine Y8 e n ?_;rcases Nt (by simpa using h1) with⟨h,_⟩|⟨h,_,_⟩
   ·rw[h]; exact hn
   ·rw[h];obtain⟨g,hg,e1,hd⟩:=hn;exact⟨g,hg,e1,ajJ b m g hd⟩
theorem Y7:∀{ns:List (Int×Int)} {b:Þ},ē b→(ŏ b ns).2=0→∀n∈ns,HK (ŏ b ns).1 n
 |[],b,_,_,n,hn=>by simp at hn
 |m::t,b,hg,e,n,hn=>by
  unfold ŏ at e ⊢
  split
  ·rename_i h1; rw[if_pos h1] at e; exact absurd e h1
  ·rename_i h1;rw[if_neg h1] at e
   have h1':(jJ b m).2=0:=by simpa using h1
   rcases cW.1 hn with rfl|hn
   ·refine Y8 e n ?_;rcases Nt h1' with⟨h,h2⟩|⟨h,h2,_⟩
    ·rw[h]; exact(XW hg).1 h2
    ·rw[h]; exact aiZ n h2
   ·exact Y7 (YV hg h1') e n hn
theorem ai0 {b:Þ} {n:Int×Int} {f:Int→Int→Int} {z:Int}:acr (jg b n) f z↔acr b f z :=
 ⟨fun h=>⟨fun g hg=>by have:=h.gauge g hg; exact⟨this.hi,this.lo,this.down,this.loss⟩,h.cmp⟩,fun h=>⟨fun g hg=>by have:=h.gauge g hg; exact⟨this.hi,this.lo,this.down,this.loss⟩,h.cmp⟩⟩
theorem Y9:∀{ns:List (Int×Int)} {b:Þ},(ŏ b ns).2=0→∀{f:Int→Int→Int} {z:Int},acr (ŏ b ns).1 f z↔acr b f z
 |[],b,_,f,z=>Iff.rfl
 |m::t,b,e,f,z=>by
  unfold ŏ at e ⊢
  split
  ·rename_i h1; rw[if_pos h1] at e; exact absurd e h1
  ·rename_i h1;rw[if_neg h1] at e;rw[Y9 e];rcases Nt (by simpa using h1) with⟨h,_⟩|⟨h,_,_⟩
   ·rw[h]
   ·rw[h]; exact ai0
section
variable {B:Þ} (h:ahO B)
include h
theorem afr (n:Int×Int):(ivR B n).1≤(ivR B n).2:=Hq h.good.sys h.good.tied h.op (ŝ B n) (Ĩ B)
theorem iv_bd (n:Int×Int) : -9007199254740992≤(ivR B n).1∧(ivR B n).2≤9007199254740992:=by
 have a1:=vR h (ŝ B n) (Ĩ B);have a2:=vR h (Ĩ B) (ŝ B n);unfold ivR;dsimp only;omega
end
structure Asked (b:Þ) (ns:List (Int×Int)) (B:Þ):Prop where
 room:ahO B
 nodes:∀n∈ns,HK B n
 hist:∀{f:Int→Int→Int} {z:Int},acr B f z↔acr b f z
 good:ē b
 gauges:B.2.1=b.2.1
theorem T9 {b:Þ} (hI:In b) {ns:List (Int×Int)} (e:(ý b ns).2=0):Asked b ns (ý b ns).1:=by
 obtain⟨h1,h2,h3,h4⟩:=kO hI e;exact⟨h1,by rw[h2]; exact Y7 h4 h3,by rw[h2]; exact Y9 h3,h4,by rw[h2]; exact t7 h3⟩
def Vd (c:Cmp):Bool:=decide (c.2.2.1.length≤10)&&decide (c.2.2.2.1.length≤10)
theorem akh (c:Cmp):Ab c=some (Vd c):=by
 unfold Ab Ig Vd;rw[á,á,Ĥ]
 by_cases h:c.2.2.1.length≤10
 ·rw[if_pos (by simp[ile]; omega)];simp[ile,h];omega
 ·rw[if_neg (by simp[ile]; omega)];simp[h]
def fewP (b:Þ):Bool :=
 !((b.2.2.2.2.1.take 50).any fun c=>!Vd c)&&(decide (b.2.1.length≤14)&&(decide (b.2.2.1.length≤45)&&(decide (b.2.2.2.1.length≤14)&&(decide (b.2.2.2.2.1.length≤42)&&decide (b.2.2.2.2.2.length≤12)))))
theorem few_ok (b:Þ):Na b=some (fewP b):=by
 unfold Na VZ
 have last:(ifb (ile (Ú b.2.1) (14:Int)) (ifb (ile (Ú b.2.2.1) (45:Int)) (ifb (ile (Ú b.2.2.2.1) (14:Int)) (ifb (ile (Ú b.2.2.2.2.1) (42:Int)) (some (ile (Ú b.2.2.2.2.2) (12:Int))) (some false)) (some false)) (some false)) (some false)) =
  some (decide (b.2.1.length≤14)&&(decide (b.2.2.1.length≤45)&&(decide (b.2.2.2.1.length≤14)&&(decide (b.2.2.2.2.1.length≤42)&&decide (b.2.2.2.2.2.length≤12))))):=by
  have e:∀(n m:Nat),ile (n:Int) (m:Int)=decide (n≤m):=fun n m=>by simp[ile]
  rw[á,á,á,á,á,show(14:Int)=((14:Nat):Int) from rfl,show(45:Int)=((45:Nat):Int) from rfl,show(42:Int)=((42:Nat):Int) from rfl,show(12:Int)=((12:Nat):Int) from rfl,e,e,e,e,e];generalize decide (b.2.1.length≤14)=x1;generalize decide (b.2.2.1.length≤45)=x2;generalize decide (b.2.2.2.1.length≤14)=x3;generalize decide (b.2.2.2.2.1.length≤42)=x4
  cases x1<;>cases x2<;>cases x3<;>cases x4<;>rfl
 rw[last];refine eM (Ļ (b.2.2.2.2.1.take 50) (fun c=>!Vd c) (fun _=>some false) (some false) (some (decide (b.2.1.length≤14)&&(decide (b.2.2.1.length≤45)&&(decide (b.2.2.2.1.length≤14)&&(decide (b.2.2.2.2.1.length≤42)&&decide (b.2.2.2.2.2.length≤12)))))) (fun _=>rfl) (fun i c hi hc kn=>?_) (fun kn=>?_)) ?_
 ·try dsimp only
  unfold uh;rw[List.length_take] at hi
  have hc':b.2.2.2.2.1[i]?=some c:=by rw[d8] at hc; split at hc<;>simp_all
  rw[Ô (show i<b.2.2.2.2.1.length by omega),Ó (decide_eq_true (by omega)),Ë hc',akh,À,Õ (by omega) (by omega),Ĥ]
 ·try dsimp only
  unfold uh;rw[List.length_take,Ĥ]
  split
  ·rename_i h
   have h':50<b.2.2.2.2.1.length:=by rw[á] at h; simp[ilt] at h; omega
   rw[Ð (decide_eq_false (by omega))]
  ·rfl
 ·unfold fewP
  cases List.any (List.take 50 b.2.2.2.2.1) (fun c=>!Vd c)<;>rfl
theorem al1 {b:Þ} (h:fewP b=true):Γ b:=by
 simp only[fewP,cM,eF,decide_eq_true_eq] at h;obtain⟨h0,h1,h2,h3,h4,h5⟩:=h;refine⟨by omega,by omega,by omega,by omega,by omega,fun c hc=>?_⟩;rw[dS (by omega)] at h0;have:=eI.1 h0 c hc;simp[Vd] at this;omega
section
variable {L:List Lk} {N:Nat} {x y H G:Int}
def al6 (h:į L N) (ht:vZ L N) (ho:ģ L N=true) {s t:Int} (hs:0≤s∧s<N) (hv:0≤t∧t<N):∃vs,Wl L (fun u=>u=s) vs t (dst L N s t):=by
 have h2:=h.n60;obtain⟨p,hp⟩:=(Ĭ h.links (by omega)).1 ho;obtain⟨vs,hw⟩:=(Β h.links (by omega) hp hs).att t hv.1 hv.2 (afF h ht ho hs hv);exact⟨vs,N1.1 hw⟩
def an1 (h:į L N) (ho:ģ L N=true) {s t d:Int} (hs:0≤s∧s<N) {vs:List Int} (hw:Wl L (fun u=>u=s) vs t d):dst L N s t≤d:=by
 have h2:=h.n60;obtain⟨p,hp⟩:=(Ĭ h.links (by omega)).1 ho;exact(Β h.links (by omega) hp hs).low t vs d (N1.2 hw)
end
inductive Wk (L:List Lk) (to:Int):Nat→Int→Int→Prop
 |nil:Wk L to 0 to 0
 |step {k:Nat} {v w m d:Int}:(v,w,m)∈L→Wk L to k w d→Wk L to (k+1) v (m+d)
section
variable {L:List Lk} {N:Nat}
def Wk.snoc {u v m:Int} (hl:(u,v,m)∈L):∀{k:Nat} {s d:Int},Wk L u k s d→Wk L v (k+1) s (d+m):=by
 intro k s d h
 induction h with
 |nil =>
  have:=Wk.step hl (Wk.nil (L:=L) (to:=v))
  have e:m+0=0+m:=by omega
  rw[e] at this;exact this
 | @step k a w m' d h1 h2 ih =>
  have:=Wk.step h1 ih
  have e:m'+(d+m)=m'+d+m:=by omega
  rw[e] at this;exact this
def Wl.front {s w m:Int} (hl:(s,w,m)∈L) {vs:List Int} {t d:Int} (h:Wl L (fun u=>u=w) vs t d):Wl L (fun u=>u=s) (vs++[s]) t (m+d):=by
 induction h with
 | @nil v hv =>
  have hv':v=w:=hv;subst hv';have:=Wl.step (Wl.nil (L:=L) (S:=fun u=>u=s) rfl) hl
  have e:0+m=m+0:=by omega
  rw[e] at this;exact this
 | @step vs u v m' d h1 h2 ih =>
  have:=Wl.step ih h2
  have e:m+d+m'=m+(d+m'):=by omega
  rw[e] at this;exact this
def Wk.wl {t:Int} {k:Nat} {s d:Int} (h:Wk L t k s d):∃vs,vs.length=k∧Wl L (fun u=>u=s) vs t d:=by
 induction h with
 |nil=>exact⟨[],rfl,.nil rfl⟩
 | @step k v w m d h1 h2 ih =>
  obtain⟨vs,e,h⟩:=ih;exact⟨vs++[v],by simp[e],h.front h1⟩
def alJ {P:Int→Prop} {B:Int} (h:∃d,P d) (hB:∀d,P d→B≤d):∃d,P d∧∀e,P e→d≤e:=by
 obtain⟨d0,h0⟩:=h
 have:∀(n:Nat) (d:Int),P d→(d-B).toNat≤n→∃d,P d∧∀e,P e→d≤e:=by
  intro n
  induction n with
  |zero=>intro d hd hn; exact⟨d,hd,fun e he=>by have:=hB e he; have:=hB d hd; omega⟩
  |succ n ih =>
   intro d hd hn
   by_cases hx:∃e,P e∧e<d
   ·obtain⟨e,he,hl⟩:=hx;exact ih e he (by have:=hB e he; omega)
   ·exact⟨d,hd,fun e he=>by
     rcases gx e d with q|q
     ·exact absurd ⟨e,he,q⟩ hx
     ·exact q⟩
 exact this _ d0 h0 (cJ _)
def Wl.cutK {S:Int→Prop} {vs:List Int} {u d:Int} (h:Wl L S vs u d):∀x∈u::vs,∃vs1 d1 k d2,Wl L S vs1 x d1∧(x::vs1) <:+ (u::vs)∧Wk L u k x d2∧d=d1+d2∧k≤vs.length:=by
 induction h with
 | @nil v hv =>
  intro x hx;simp at hx;subst hx;exact⟨[],0,0,0,.nil hv,List.suffix_refl _,.nil,by omega,by simp⟩
 | @step vs u v m d hw hl ih =>
  intro x hx;rcases cW.1 hx with rfl|hx
  ·exact⟨u::vs,d+m,0,0,.step hw hl,List.suffix_refl _,.nil,by omega,by simp⟩
  ·obtain⟨vs1,d1,k,d2,g1,g2,g3,g4,g5⟩:=ih x hx;exact⟨vs1,d1,k+1,d2+m,g1,g2.trans (List.suffix_cons _ _),g3.snoc hl,by omega,by simp; omega⟩
def Ud (hS:į L N) (hno:ģ L N=false):∃(k:Nat) (v d:Int),1≤k∧k≤N∧(0≤v∧v<N)∧Wk L v k v d∧d<0:=by
 have hn:=hS.n60;apply Classical.byContradiction;intro hc
 have hcl:∀{k:Nat} {v d:Int},1≤k→k≤N→(0≤v∧v<N)→Wk L v k v d→0≤d:=fun {k v d} h1 h2 h3 h4=>by
  rcases gx d 0 with q|q
  ·exact absurd ⟨k,v,d,h1,h2,h3,h4,q⟩ hc
  ·exact q
 have hinr:∀l∈L,-4503599627370496≤l.2.2:=fun l hl=>(hS.most l hl).1
 let P:Int→Int→Prop:=fun v d=>∃vs,Wl L (fun u=>0≤u∧u<N) vs v d∧(v::vs).Nodup
 have hP:∀v:Int,0≤v∧v<N→∃d,P v d∧∀e,P v e→d≤e:=fun v hv=>alJ (B:=-(60*4503599627370496)) ⟨0,[],.nil hv,by simp⟩ (by
  rintro d ⟨vs,h1,h2⟩;have q1:=h1.lowM hinr;have q2:=h1.short hS.inr (fun w hw=>hw) h2
  have:((vs.length:Nat):Int)*4503599627370496≤60*4503599627370496:=by omega
  omega)
 have ho:ģ L N=true:=by
  refine(Ĭ hS.links (by omega)).2 ⟨fun v=>if hv:0≤v∧v<(N:Int) then Classical.choose (hP v hv) else 0,fun u v m hl=>?_⟩;have hr:=hS.inr _ hl;dsimp only at hr;obtain⟨⟨vs,hw,hnd⟩,hu2⟩:=Classical.choose_spec (hP u hr.1);obtain⟨_,hv2⟩:=Classical.choose_spec (hP v hr.2);have e1:(if hv:0≤u∧u<(N:Int) then Classical.choose (hP u hv) else 0)=Classical.choose (hP u hr.1):=dif_pos hr.1;have e2:(if hv:0≤v∧v<(N:Int) then Classical.choose (hP v hv) else 0)=Classical.choose (hP v hr.2):=dif_pos hr.2;dsimp only;rw[e1,e2];generalize Classical.choose (hP u hr.1)=a at *;generalize Classical.choose (hP v hr.2)=b at *
  by_cases hv:v∈u::vs
  ·obtain⟨vs1,d1,k,d2,g1,g2,g3,g4,g5⟩:=hw.cutK v hv;have hlen:=hw.short hS.inr (fun w hw=>hw) hnd;have:=hcl (by omega) (by omega) hr.2 (g3.snoc hl);have:=hv2 d1 ⟨vs1,g1,hnd.sublist g2.sublist⟩;omega
  ·have:=hv2 (a+m) ⟨u::vs,hw.step hl,fF.2 ⟨hv,hnd⟩⟩;omega
 rw[hno] at ho;cases ho
end
def ahd {b:Þ} (h:In b) (n:Int×Int) (upper:Bool):In (oI b n upper).1.1:=by
 have h0:In lS:=⟨⟨by simp[lS],by simp[lS],by simp[lS],by simp[lS],by simp[lS],by simp[lS]⟩,by simp[lS]⟩;unfold oI
 by_cases e:(ý b [n]).2=0
 ·rw[if_neg (by simp[e])];have hr:=(kO h e).1
  split
  ·exact h0
  ·split
   ·exact am3 (hr.good.inn hr.num) _ (by simp)
   ·exact h0
 ·rw[if_pos e]; exact h0
def y1:HL exB (2,10)=((984,1011),0):=by decide +kernel
def y2:HL exB (1,30)=((964,1005),0):=by decide +kernel
def y3:YG exB (1,10) (2,10)=((-6,11),0):=by decide +kernel
def y4:aom exB 10 [1,2]=((1979,2018),0):=by decide +kernel
def y5:HJ exB (2,0) (990,1010)=(3,0):=by decide +kernel
def y6:(oI exB (2,10) true).2=0∧(oI exB (2,10) true).1.2.2.2.1=1011:=by decide +kernel
def y7:af2 exB (2,10) exC=(10,0):=by decide +kernel
def y8:Nk exB (2,10) (900,1100) exC=(true,0):=by decide +kernel
def y9:aeq exB (oI exB (2,10) true).1=(true,0):=by decide +kernel
def y10:ç exB=0∧ģ (Ý exB) ((Ê exB).length+1)=true:=by decide +kernel
def y11:oV (oI exB (2,10) true).1=0:=by decide +kernel
def ago:ā=some true:=by
 unfold ā CM zc xq;have hc:=ahd zn (2,10) true
 have hv:I64 (oI exB (2,10) true).1.2.2.2.1:=by rw[y6.2]; unfold I64; omega
 rw[À];rw[show((((0:Int),(2:Int)),[((1:Int),(0:Int),(1000:Int),((-5:Int),(5:Int)),((1:Int),(10:Int)),(1:Int)),((2:Int),(0:Int),(1000:Int),((-50:Int),(50:Int)),((1:Int),(4:Int)),(0:Int))],[((1:Int),(10:Int))],[((1:Int),((20:Int),(29:Int)),(3:Int))],[((7:Int),(10:Int),[(1:Int)],[(2:Int)],(-20:Int),(1:Int),(100:Int),(200:Int))],([]:List (Int×Int))):Þ)=exB from rfl];rw[Rt zn,À,Rt zn,À,ahJ zn,À,aol zn _ (by decide),À,af7 zn,À,ahI zn,À,y1,y2,y3,y4,y5,y6.1,y6.2]
 rw[show zf exB ((2:Int),(10:Int)) ((8:Int),(10:Int),[(1:Int)],[(2:Int)],(0:Int),(0:Int),(0:Int),(0:Int))=some (af2 exB (2,10) exC) from amE zn _ (c:=exC) (by decide) (by decide),
  show pN exB ((2:Int),(10:Int)) ((900:Int),(1100:Int)) ((8:Int),(10:Int),[(1:Int)],[(2:Int)],(0:Int),(0:Int),(0:Int),(0:Int))=some (Nk exB (2,10) (900,1100) exC) from ahy zn _ _ (c:=exC) (by decide) (by decide),
  akv zn hc hv,acG ((ë _).1 y10.1) zn.num y10.2,Lw hc hv,y7,y8,y9,y11]
 rfl
section
variable {L:List Lk} {N:Nat}
def aet (h:į L N) (ht:vZ L N):ų ((N:Int),L)=some (if ģ L N then(ŕ L N 0,0) else([],9)):=by
 have h2:=h.n60;have h3:=h.n1;unfold ų yJ;rw[afY h (by simp) (by simp),À]
 by_cases ho:ģ L N=true
 ·rw[if_pos ho,Ð (by rfl),ab4 h.links h.n1 (by omega) ho ⟨by omega,by omega⟩,À,kH (by rw[pV]; omega),À,if_pos ho];rw[Ð];rw[Bool.eq_false_iff];intro hc;have hm:=List.contains_iff_mem.1 hc;obtain⟨i,hi,he⟩:=List.mem_iff_getElem.1 hm;rw[pV] at hi;have:=JV h ht ho (v:=i) (by omega) (by omega);unfold gv at this;rw[Int.toNat_natCast,List.getElem?_eq_getElem (by rw[pV]; exact hi)] at this;simp only[Option.getD_some] at this;omega
 ·rw[if_neg ho,Ó (by rfl),if_neg ho]
end
def ajG {b:Þ} (h:ē b) {y:List Int} (hy:y.length=(Ê b).length+1) (h0:gv y 0=0) (hp:Pot (Ý b) (gv y)):ahH b (y.drop 1)=(true,0):=by
 have e:0::y.drop 1=y:=by
  cases y with
  |nil=>simp at hy
  |cons a t =>
   have:a=0:=h0;rw[this]; rfl
 rw[acj];refine⟨h,yZ.2 ⟨by simp; omega,fun n hn=>?_⟩,?_⟩
 ·obtain⟨i,hi,rfl⟩:=List.mem_iff_getElem.1 hn;rw[List.length_drop] at hi;have:=alo h hp (v:=((1+i:Nat):Int)) (by omega) (by omega);rw[h0] at this;unfold gv at this;rw[Int.toNat_natCast,List.getElem?_eq_getElem (by omega)] at this;rw[List.getElem_drop];simp only[Option.getD_some] at this;omega
 ·unfold anV;rw[e];exact abA.2 hp
theorem Ny {L:List Lk} {N:Nat} {v:Int} (h0:0≤v) (h1:v<N):gv (solP L N) v=gv (ī L N) v-gv (ī L N) 0:=by
 have hl:(ī L N).length=N:=by unfold ī; rw[ĥ,ö]
 have h2:v.toNat<(ī L N).length:=by omega
 unfold solP;generalize gv (ī L N) 0=z;unfold gv;rw[List.getElem?_map,List.getElem?_eq_getElem h2];rfl
theorem ale {L:List Lk} {N:Nat} (h:į L N) (ho:ģ L N=true):Pot L (gv (solP L N))∧gv (solP L N) 0=0:=by
 have h2:=h.n60;have h1:=h.n1;obtain⟨p,hp⟩:=(Ĭ h.links (by omega)).1 ho;refine⟨fun u v m hl=>?_,by rw[Ny (by omega) (by omega)]; omega⟩;have hr:=h.inr _ hl
 have hlen:(ī L N).length=N:=by unfold ī; rw[ĥ,ö]
 have hu:gv (ī L N) u≤0:=(Vp h.links (by omega) ho _ (List.mem_of_getElem? (UQ (by omega)))).2;have:=(zG h.links (by omega) hp).pot h.inr hl (by show gv (ī L N) u≠ľ; unfold ľ; omega);have e1:=Ny (L:=L) hr.1.1 hr.1.2;have e2:=Ny (L:=L) hr.2.1 hr.2.2;dsimp only at e1 e2;have e:gv (ī L N) v≤gv (ī L N) u+m:=this;omega
section
variable {B:Þ} (h:ahO B)
include h
theorem al5 {v:Int} (hv:0≤v∧v<((Ê B).length+1:Nat)):(-4503599627370496≤DT B 0 v∧DT B 0 v≤4503599627370496)∧(-4503599627370496≤DT B v 0∧DT B v 0≤4503599627370496):=by
 have a1:DT B 0 v≤4503599627370496:=JV h.good.sys h.good.tied h.op hv.1 hv.2;have a2:DT B v 0≤4503599627370496:=aht h.good.sys h.good.tied h.op hv.1 hv.2;have a3 : -(DT B v 0)≤DT B 0 v:=Hq h.good.sys h.good.tied h.op hv (Ĩ B);omega
end
def Rx (N:Nat) (g:Int→Int):List Int:=(List.range N).map fun(v:Nat)=>g v
def AU (N:Nat) (f:Int→Int→Int):List (List Int):=(List.range N).map fun(u:Nat)=>Rx N (f u)
section
variable {N:Nat} {ρ:Type}
def aln (g:Int→Int):(Rx N g).length=N:=by simp[Rx]
def ak9 (f:Int→Int→Int):(AU N f).length=N:=by simp[AU]
def ob (g:Int→Int):þ (Rx N g)=(N:Int):=by unfold þ; rw[aln]
def ue (f:Int→Int→Int):þ (AU N f)=(N:Int):=by unfold þ; rw[ak9]
def aeW (g:Int→Int) {v:Int} (h0:0≤v) (h1:v<N):(Rx N g)[v.toNat]?=some (g v):=by
 unfold Rx;rw[List.getElem?_map,List.getElem?_range (by omega),Option.map_some,show((v.toNat:Nat):Int)=v by omega]
def aeO (f:Int→Int→Int) {u:Int} (h0:0≤u) (h1:u<N):(AU N f)[u.toNat]?=some (Rx N (f u)):=by
 unfold AU;rw[List.getElem?_map,List.getElem?_range (by omega),Option.map_some,show((u.toNat:Nat):Int)=u by omega]
def qm (f:Int→Int→Int) {u:Int} (h0:0≤u) (h1:u<N) (K:List Int→Option ρ):ĺ (AU N f) u.toNat K=K (Rx N (f u)):=jo (aeO f h0 h1) K
def mC (g:Int→Int) {v:Int} (h0:0≤v) (h1:v<N) (K:Int→Option ρ):ĺ (Rx N g) v.toNat K=K (g v):=jo (aeW g h0 h1) K
def Vt {g g':Int→Int} (h:∀v:Int,0≤v→v<N→g v=g' v):Rx N g=Rx N g':=by
 unfold Rx;refine List.map_congr_left fun v hv=>?_;have:=List.mem_range.1 hv;exact h v (by omega) (by omega)
def rt {f f':Int→Int→Int} (h:∀u v:Int,0≤u→u<N→0≤v→v<N→f u v=f' u v):AU N f=AU N f':=by
 unfold AU;refine List.map_congr_left fun u hu=>?_;have:=List.mem_range.1 hu;exact Vt fun v h0 h1=>h u v (by omega) (by omega) h0 h1
def ah9 {α:Type} (F:Nat→α) (N i:Nat) (x:α):((List.range N).map F).set i x=(List.range N).map fun j=>if j=i then x else F j:=by
 refine List.ext_getElem? fun j=>?_;rw[fJ,fK,fK];rcases dv j N with hj|hj
 ·rw[fc hj]
  by_cases h:i=j
  ·subst h;rw[if_pos rfl,if_pos (by simpa using hj)];simp
  ·rw[if_neg h];simp[Ne.symm h]
 ·rw[fH (l:=List.range N) (by simpa using hj)]
  by_cases h:i=j
  ·subst h;rw[if_pos rfl,if_neg (by simp; omega)];rfl
  ·rw[if_neg h];rfl
def acD (g:Int→Int) {v:Int} (h0:0≤v) (x:Int):(Rx N g).set v.toNat x=Rx N fun b=>if b=v then x else g b:=by
 unfold Rx;rw[ah9];refine List.map_congr_left fun j _=>?_
 by_cases h:j=v.toNat
 ·rw[if_pos h]; exact(if_pos (by omega)).symm
 ·rw[if_neg h]; exact(if_neg (by omega)).symm
def ah8 (f:Int→Int→Int) {u v:Int} (h0:0≤u) (h1:0≤v) (x:Int):(AU N f).set u.toNat ((Rx N (f u)).set v.toNat x)=AU N fun a b=>if a=u∧b=v then x else f a b:=by
 rw[acD _ h1];unfold AU;rw[ah9];refine List.map_congr_left fun j _=>?_
 by_cases h:j=u.toNat
 ·have hj:(j:Int)=u:=by omega
  rw[if_pos h,hj];congr 1;funext b
  by_cases hb:b=v<;>simp[hb]
 ·rw[if_neg h];congr 1;funext b;exact(if_neg (by omega)).symm
end
inductive WI (L:List Lk) (k u:Int):Int→Int→Prop
 |nil:WI L k u u 0
 |one {v m:Int}:(u,v,m)∈L→WI L k u v m
 |step {w v d m:Int}:WI L k u w d→0≤w→w<k→(w,v,m)∈L→WI L k u v (d+m)
section
variable {L:List Lk} {N:Nat} {k u:Int}
def WI.mono {k':Int} (hk:k≤k') {v d:Int} (h:WI L k u v d):WI L k' u v d:=by
 induction h with
 |nil=>exact .nil
 |one h=>exact .one h
 |step _ h0 h1 h2 ih=>exact ih.step h0 (by omega) h2
def WI.app {w v d e:Int} (h1:WI L k u w d) (h2:WI L k w v e) (h0:0≤w) (hk:w<k):WI L k u v (d+e):=by
 induction h2 with
 |nil=>rw[f6]; exact h1
 |one h=>exact h1.step h0 hk h
 | @step x v e m _ g0 g1 g2 ih =>
  have:=ih.step g0 g1 g2;rw[Int.add_assoc] at this;exact this
def WI.wl {v d:Int} (h:WI L k u v d):∃vs,Wl L (fun x=>x=u) vs v d:=by
 induction h with
 |nil=>exact⟨[],.nil rfl⟩
 | @one v m h =>
  have:=Wl.step (Wl.nil (L:=L) (S:=fun x=>x=u) rfl) h;rw[Int.zero_add] at this;exact⟨_,this⟩
 |step _ _ _ h2 ih =>
  obtain⟨vs,h⟩:=ih;exact⟨_,h.step h2⟩
def WI.of_wl (hL:InR L N) (hk:(N:Int)≤k) {vs:List Int} {v d:Int} (h:Wl L (fun x=>x=u) vs v d):WI L k u v d:=by
 induction h with
 |nil h =>
  obtain rfl:=h;exact .nil
 | @step vs w v m d _ h2 ih =>
  have:=(hL _ h2).1;exact ih.step this.1 (by dsimp only at this; omega) h2
def WI.of_wk (hL:InR L N) (hk:(N:Int)≤k) {n:Nat} {v d:Int} (h:Wk L v n u d):WI L k u v d:=by
 obtain⟨vs,_,h⟩:=h.wl;exact .of_wl hL hk h
def Wl.shorten {S:Int→Prop} {vs:List Int} {v d:Int} (h:Wl L S vs v d):∃vs' d',Wl L S vs' v d'∧(v::vs').Nodup:=by
 have h1:∀{vs:List Int} {v d:Int},Wl L S vs v d→Wl (L.map fun l=>(l.1,l.2.1,0)) S vs v 0:=fun h=>by
  induction h with
  |nil h=>exact .nil h
  | @step vs w v m d _ h2 ih =>
   have:=ih.step (v:=v) (m:=0) (dT.2 ⟨_,h2,rfl⟩);exact this
 have h2:∀{vs:List Int} {v d:Int},Wl (L.map fun l=>(l.1,l.2.1,0)) S vs v d→∃d',Wl L S vs v d':=fun h=>by
  induction h with
  |nil h=>exact⟨0,.nil h⟩
  | @step vs w v m d _ h2 ih =>
   obtain⟨d',h⟩:=ih;obtain⟨l,hl,e⟩:=dT.1 h2;obtain⟨a,b,c⟩:=l;simp only[Prod.mk.injEq] at e;obtain⟨rfl,rfl,rfl⟩:=e;exact⟨_,h.step hl⟩
 obtain⟨vs',d',g1,_,g3⟩:=(h1 h).simple (p:=fun _=>0) (fun a b m hm=>by
  obtain⟨l,_,e⟩:=List.mem_map.1 hm;simp only[Prod.mk.injEq] at e;dsimp only
  omega)
 obtain⟨d'',g4⟩:=h2 g1;exact⟨vs',d'',g4,g3⟩
def agq (L:List Lk) (k u v:Int):List Lk:=L.filter fun l=>(l.1==u||(decide (0≤l.1)&&decide (l.1<k)))&&(l.2.1==v||(decide (0≤l.2.1)&&decide (l.2.1<k)))
def si {v:Int} {l:Lk}:l∈agq L k u v↔l∈L∧(l.1=u∨(0≤l.1∧l.1<k))∧(l.2.1=v∨(0≤l.2.1∧l.2.1<k)):=by
 unfold agq;rw[List.mem_filter];simp
def WI.rest (v:Int) {w d:Int} (h:WI L k u w d):(w=v∨(0≤w∧w<k))→∃vs,Wl (agq L k u v) (fun x=>x=u) vs w d:=by
 induction h with
 |nil=>exact fun _=>⟨[],.nil rfl⟩
 | @one w m h =>
  intro hw;have:=Wl.step (Wl.nil (L:=agq L k u v) (S:=fun x=>x=u) rfl) (si.2 ⟨h,.inl rfl,hw⟩);rw[Int.zero_add] at this;exact⟨_,this⟩
 | @step x w d m _ h0 h1 h2 ih =>
  intro hw;obtain⟨vs,h⟩:=ih (.inr ⟨h0,h1⟩);exact⟨_,h.step (si.2 ⟨h2,.inr ⟨h0,h1⟩,hw⟩)⟩
def WI.of_rest {v:Int} {vs:List Int} {w d:Int} (h:Wl (agq L k u v) (fun x=>x=u) vs w d):v∉vs→WI L k u w d:=by
 induction h with
 |nil h =>
  obtain rfl:=h;exact fun _=>.nil
 | @step vs x w m d h1 h2 ih =>
  intro hv;obtain⟨g1,g2,g3⟩:=si.1 h2;have ih':=ih fun h=>hv (by simp[h]);have hxv:x≠v:=fun e=>hv (by simp[e])
  cases h1 with
  |nil h =>
   obtain rfl:=h;rw[Int.zero_add];exact .one g1
  |step h3 h4 =>
   obtain⟨_,_,g4⟩:=si.1 h4;rcases g4 with g4|g4
   ·exact absurd g4 hxv
   ·exact ih'.step g4.1 g4.2 g1
def WI.high (hS:į L N) {v d:Int} (hu:0≤u∧u<N) (h:WI L k u v d):∃d',WI L k u v d'∧d'≤270215977642229760:=by
 have hn:=hS.n60;obtain⟨vs,hw⟩:=h.rest v (.inl rfl);obtain⟨vs',d',h1,h2⟩:=hw.shorten;have hin:InR (agq L k u v) N:=fun l hl=>hS.inr l (si.1 hl).1;have hlen:=h1.short hin (fun w hw=>by rw[hw]; exact hu) h2;have hhi:=h1.high (M:=4503599627370496) fun l hl=>(hS.most l (si.1 hl).1).2;refine⟨d',.of_rest h1 (fF.1 h2).1,?_⟩;omega
def agM (L:List Lk) (k:Int):List Lk:=L.filter fun l=>decide (l.1<k)&&decide (l.2.1<k)
def XN {l:Lk}:l∈agM L k↔l∈L∧l.1<k∧l.2.1<k:=by
 unfold agM;rw[List.mem_filter];simp
def afl (hS:į L N):į (agM L k) N:=hS.sub (fun l hl=>(XN.1 hl).1) (dA _ _)
def WI.of_low (hS:į L N) {v d:Int} {n:Nat} (h:Wk (agM L k) v n u d):WI L k u v d:=by
 obtain⟨vs,_,hw⟩:=h.wl;clear h;rename_i hlen;clear hlen
 induction hw with
 |nil h =>
  obtain rfl:=h;exact .nil
 | @step vs w v m d _ h2 ih =>
  obtain⟨g1,g2,g3⟩:=XN.1 h2;have:=(hS.inr _ g1).1;exact ih.step this.1 g2 g1
def alE (hS:į L N) (hc:∀v d:Int,0≤v→v<N→WI L k v v d→0≤d):ģ (agM L k) N=true:=by
 cases ho:ģ (agM L k) N with
 |true=>rfl
 |false =>
  obtain⟨n,v,d,_,_,h3,h4,h5⟩:=Ud (afl hS) ho;have:=hc v d h3.1 h3.2 (.of_low hS h4);omega
def WI.low (hS:į L N) (hc:∀v d:Int,0≤v→v<N→WI L k v v d→0≤d) {v d:Int} (h:WI L k u v d) : -2314850208468434944≤d:=by
 have hn:=hS.n60;have ho:=alE hS hc;have hs:=afl (k:=k) hS;have hbd:=Vp hs.links (by omega) ho;obtain⟨hp,_⟩:=ale hs ho
 let p:Int→Int:=fun v=>if 0≤v∧v<N then gv (ī (agM L k) N) v else 0
 have hlen:(ī (agM L k) N).length=N:=by unfold ī; rw[ĥ,ö]
 have hpb:∀v,-2305843009213693952≤p v∧p v≤0:=fun v=>by
  show -2305843009213693952≤(if 0≤v∧v<N then gv (ī (agM L k) N) v else 0)∧(if 0≤v∧v<N then gv (ī (agM L k) N) v else 0)≤0
  split
  ·rename_i hv;exact hbd _ (cR (UQ (by omega)))
  ·omega
 have hpp:∀a b m,(a,b,m)∈agM L k→p b≤p a+m:=fun a b m hl=>by
  have hr:=hs.inr _ hl;dsimp only at hr;have:=hp a b m hl;rw[Ny hr.1.1 hr.1.2,Ny hr.2.1 hr.2.2] at this;show(if 0≤b∧b<N then gv (ī (agM L k) N) b else 0)≤(if 0≤a∧a<N then gv (ī (agM L k) N) a else 0)+m;rw[if_pos hr.1,if_pos hr.2];omega
 have key:∀{v d:Int},WI L k u v d→(v<k→p v-4503599627370496≤d)∧-2314850208468434944≤d:=fun {v d} h=>by
  induction h with
  |nil=>have:=hpb u; exact⟨fun _=>by omega,by omega⟩
  | @one v m h =>
   have:=hpb v;have:=(hS.most _ h).1;dsimp only at this;exact⟨fun _=>by omega,by omega⟩
  | @step w v d m _ h0 h1 h2 ih =>
   have hm:=(hS.most _ h2).1;dsimp only at hm;have hi:=ih.1 h1;have hw:=hpb w;refine⟨fun hv=>?_,by omega⟩;have:=hpp w v m (XN.2 ⟨h2,h1,hv⟩);omega
 exact(key h).2
def lkF (f:Int→Int→Int) (l:Lk):Int→Int→Int:=fun a b=>if a=l.1∧b=l.2.1 then min (f l.1 l.2.1) l.2.2 else f a b
def adU (a b:Int):Int:=if a=b then 0 else ľ
def upF (f:Int→Int→Int) (k:Int):Int→Int→Int:=fun a b=>if f a k=ľ then f a b else if f k b=ľ then f a b else min (f a b) (f a k+f k b)
def fw (L:List Lk):Nat→Int→Int→Int
 |0=>L.foldl lkF adU
 |k+1=>upF (fw L k) k
def UW (a b:Int):∀(M:List Lk) (f:Int→Int→Int),(M.foldl lkF f) a b≤f a b∧(∀m,(a,b,m)∈M→(M.foldl lkF f) a b≤m)∧((M.foldl lkF f) a b=f a b∨∃m,(a,b,m)∈M∧(M.foldl lkF f) a b=m)
 |[],f=>⟨dF _,fun _ h=>by simp at h,.inl rfl⟩
 |l::M,f=>by
  rw[fR];obtain⟨i1,i2,i3⟩:=UW a b M (lkF f l)
  have key:lkF f l a b≤f a b∧((a=l.1∧b=l.2.1)→lkF f l a b≤l.2.2)∧(lkF f l a b=f a b∨((a=l.1∧b=l.2.1)∧lkF f l a b=l.2.2)):=by
   unfold lkF
   by_cases h:a=l.1∧b=l.2.1
   ·rw[if_pos h,h.1,h.2];refine⟨by omega,fun _=>by omega,?_⟩
    by_cases hc:f l.1 l.2.1≤l.2.2
    ·exact .inl (by omega)
    ·exact .inr ⟨⟨rfl,rfl⟩,by omega⟩
   ·rw[if_neg h];exact⟨dF _,fun h'=>absurd h' h,.inl rfl⟩
  obtain⟨k1,k2,k3⟩:=key;refine⟨by omega,fun m hm=>?_,?_⟩
  ·rcases cW.1 hm with h|h
   ·subst h;have:=k2 ⟨rfl,rfl⟩;dsimp only at this;omega
   ·exact i2 m h
  ·rcases i3 with h|⟨m,h,e⟩
   ·rcases k3 with h'|⟨⟨h1,h2⟩,h'⟩
    ·exact .inl (h.trans h')
    ·exact .inr ⟨l.2.2,by rw[h1,h2]; simp,h.trans h'⟩
   ·exact .inr ⟨m,by simp[h],e⟩
structure Tab (L:List Lk) (N:Nat) (k:Nat) (f:Int→Int→Int):Prop where
 att:∀a b:Int,0≤a→a<N→0≤b→b<N→f a b≠ľ→WI L k a b (f a b)
 le:∀a b s:Int,0≤a→a<N→0≤b→b<N→WI L k a b s→f a b≤s∧f a b≠ľ
 diag:∀a:Int,0≤a→a<N→f a a=0
def Tab.closed {f:Int→Int→Int} {k:Nat} (h:Tab L N k f):∀v d:Int,0≤v→v<N→WI L k v v d→0≤d:=fun v d h0 h1 hw=>by
 have:=(h.le v v d h0 h1 h0 h1 hw).1;rw[h.diag v h0 h1] at this;exact this
def Tab.bd (hS:į L N) {f:Int→Int→Int} {k:Nat} (h:Tab L N k f) {a b:Int} (ha:0≤a∧a<N) (hb:0≤b∧b<N) (hf:f a b≠ľ) : -2314850208468434944≤f a b∧f a b≤270215977642229760:=by
 have hw:=h.att a b ha.1 ha.2 hb.1 hb.2 hf;obtain⟨d,hd,hle⟩:=hw.high hS ha;have:=(h.le a b d ha.1 ha.2 hb.1 hb.2 hd).1;exact⟨hw.low hS h.closed,by omega⟩
def ak8 (hS:į L N):Tab L N 0 (fw L 0):=by
 have key:∀a b,(fw L 0 a b≤adU a b)∧(∀m,(a,b,m)∈L→fw L 0 a b≤m)∧(fw L 0 a b=adU a b∨∃m,(a,b,m)∈L∧fw L 0 a b=m):=fun a b=>UW a b L adU;refine⟨fun a b ha ha' hb hb' hf=>?_,fun a b s ha ha' hb hb' hw=>?_,fun a ha ha'=>?_⟩
 ·rcases(key a b).2.2 with h|⟨m,h,e⟩
  ·rw[h] at hf ⊢;unfold adU at hf ⊢
   by_cases hab:a=b
   ·subst hab; rw[if_pos rfl]; exact .nil
   ·rw[if_neg hab] at hf; exact absurd rfl hf
  ·rw[e]; exact .one h
 ·have hs:fw L 0 a b≤s∧s≤4503599627370496:=by
   cases hw with
   |nil =>
    have:=(key a a).1;unfold adU at this;rw[if_pos rfl] at this;omega
   |one h=>exact⟨(key a b).2.1 _ h,(hS.most _ h).2⟩
   |step _ h0 h1 _=>omega
  refine⟨hs.1,fun hF=>?_⟩;rw[hF] at hs;unfold ľ at hs;omega
 ·rcases(key a a).2.2 with h|⟨m,h,e⟩
  ·rw[h]; unfold adU; rw[if_pos rfl]
  ·exact absurd rfl (hS.noloop _ h)
def aeN (hS:į L N) {k:Nat} (hk:k<N) {f:Int→Int→Int} (h:Tab L N k f) :
 (∀a b:Int,0≤a→a<N→0≤b→b<N→upF f k a b≠ľ→WI L ((k+1:Nat):Int) a b (upF f k a b)) ∧
 (∀a b s:Int,0≤a→a<N→0≤b→b<N→WI L ((k+1:Nat):Int) a b s→upF f k a b≤s∧upF f k a b≠ľ) ∧
 (∀a:Int,0≤a→a<N→upF f k a a≤0):=by
 have hk0:(0:Int)≤k∧(k:Int)<N:=by omega
 -- the element that a pass gives
 have cases3:∀a b:Int,upF f k a b=f a b∨(f a k≠ľ∧f k b≠ľ∧upF f k a b=f a k+f k b):=fun a b=>by
  unfold upF
  by_cases h1:f a k=ľ
  ·rw[if_pos h1]; exact .inl rfl
  rw[if_neg h1]
  by_cases h2:f k b=ľ
  ·rw[if_pos h2]; exact .inl rfl
  rw[if_neg h2]
  by_cases h3:f a b≤f a k+f k b
  ·exact .inl (by omega)
  ·exact .inr ⟨h1,h2,by omega⟩
 have lim:∀a b:Int,0≤a→a<N→0≤b→b<N→f a b≤ľ:=fun a b h0 h1 h2 h3=>by
  by_cases hf:f a b=ľ
  ·omega
  ·have:=h.bd hS ⟨h0,h1⟩ ⟨h2,h3⟩ hf; unfold ľ; omega
 have upper:∀a b:Int,upF f k a b≤f a b∧(f a k≠ľ→f k b≠ľ→upF f k a b≤f a k+f k b):=fun a b=>by
  unfold upF
  by_cases h1:f a k=ľ
  ·rw[if_pos h1]; exact⟨dF _,fun h'=>absurd h1 h'⟩
  rw[if_neg h1]
  by_cases h2:f k b=ľ
  ·rw[if_pos h2]; exact⟨dF _,fun _ h'=>absurd h2 h'⟩
  rw[if_neg h2];exact⟨by omega,fun _ _=>by omega⟩
 have B:=fun(a b:Int) (h0:0≤a) (h1:a<N) (h2:0≤b) (h3:b<N) (hf:f a b≠ľ)=>h.bd hS ⟨h0,h1⟩ ⟨h2,h3⟩ hf
 -- if there is a walk, the element is told
 have ne:∀a b:Int,0≤a→a<N→0≤b→b<N→(f a b≠ľ∨(f a k≠ľ∧f k b≠ľ))→upF f k a b≠ľ:=fun a b h0 h1 h2 h3 hc hF=>by
  have hu:=upper a b;rcases hc with hc|⟨hc1,hc2⟩
  ·have:=B a b h0 h1 h2 h3 hc;rw[hF] at hu;unfold ľ at hu;omega
  ·have b1:=B a k h0 h1 hk0.1 hk0.2 hc1;have b2:=B k b hk0.1 hk0.2 h2 h3 hc2;have:=hu.2 hc1 hc2;rw[hF] at this;unfold ľ at this;omega
 have colk:∀a:Int,0≤a→a<N→upF f k a k=f a k:=fun a h0 h1=>by
  have hd:=h.diag k hk0.1 hk0.2;unfold upF;rw[hd]
  split
  ·rfl
  ·rw[if_neg (by decide)]; omega
 refine⟨fun a b h0 h1 h2 h3 hf=>?_,fun a b s h0 h1 h2 h3 hw=>?_,fun a h0 h1=>?_⟩
 ·rcases cases3 a b with e|⟨e1,e2,e⟩
  ·rw[e] at hf ⊢;exact(h.att a b h0 h1 h2 h3 hf).mono (by omega)
  ·rw[e];exact((h.att a k h0 h1 hk0.1 hk0.2 e1).mono (by omega)).app ((h.att k b hk0.1 hk0.2 h2 h3 e2).mono (by omega)) hk0.1 (by omega)
 ·-- by the walk
  have main:∀{v s:Int},WI L ((k+1:Nat):Int) a v s→(0≤v∧v<N)→upF f k a v≤s∧(f a v≠ľ∨(f a k≠ľ∧f k v≠ľ)):=fun {v s} hw=>by
   induction hw with
   |nil =>
    intro hv;have:=h.le a a 0 hv.1 hv.2 hv.1 hv.2 .nil;exact⟨by have:=(upper a a).1; omega,.inl this.2⟩
   | @one v m hl =>
    intro hv;have:=h.le a v m h0 h1 hv.1 hv.2 (.one hl);exact⟨by have:=(upper a v).1; omega,.inl this.2⟩
   | @step w v d m _ g0 g1 g2 ih =>
    intro hv;have hwr:=(hS.inr _ g2).1;dsimp only at hwr;obtain⟨i1,i2⟩:=ih hwr;have hone:=h.le w v m hwr.1 hwr.2 hv.1 hv.2 (.one g2)
    by_cases hwk:w=k
    ·subst hwk;rw[colk a h0 h1] at i1
     have hak:f a k≠ľ:=by
      rcases i2 with i2|i2
      ·exact i2
      ·exact i2.1
     have:=(upper a v).2 hak hone.2;exact⟨by omega,.inr ⟨hak,hone.2⟩⟩
    ·have hlt:w<k:=by push_cast at g1; omega
     -- one link ì of a walk by nodes below k
     have ext:∀x:Int,0≤x→x<N→f x w≠ľ→f x v≤f x w+m∧f x v≠ľ:=fun x hx0 hx1 hf =>
      h.le x v _ hx0 hx1 hv.1 hv.2 ((h.att x w hx0 hx1 hwr.1 hwr.2 hf).step hwr.1 hlt g2)
     rcases cases3 a w with e|⟨e1,e2,e⟩
     ·have hne:f a w≠ľ:=by
       rcases i2 with i2|⟨i2,i3⟩
       ·exact i2
       ·intro hF;rw[hF] at e;exact ne a w h0 h1 hwr.1 hwr.2 (.inr ⟨i2,i3⟩) e
      have:=ext a h0 h1 hne;exact⟨by have:=(upper a v).1; omega,.inl this.2⟩
     ·have:=ext k hk0.1 hk0.2 e2;have:=(upper a v).2 e1 this.2;exact⟨by omega,.inr ⟨e1,(ext k hk0.1 hk0.2 e2).2⟩⟩
  obtain⟨m1,m2⟩:=main hw ⟨h2,h3⟩;exact⟨m1,ne a b h0 h1 h2 h3 m2⟩
 ·have:=(upper a a).1;have:=h.diag a h0 h1;omega
def wi_pot {p:Int→Int} (hp:Pot L p) {v d:Int} (h:WI L k u v d):p v≤p u+d:=by
 induction h with
 |nil=>omega
 |one h=>exact hp _ _ _ h
 |step _ _ _ h2 ih=>have:=hp _ _ _ h2; omega
def fw_all (hS:į L N):(∃k:Nat,k<N∧Tab L N k (fw L k)∧(∃a:Int,0≤a∧a<N∧fw L (k+1) a a<0)∧∀j,j≤k→Tab L N j (fw L j))∨∀k:Nat,k≤N→Tab L N k (fw L k):=by
 have:∀k:Nat,k≤N→(∃j:Nat,j<k∧Tab L N j (fw L j)∧(∃a:Int,0≤a∧a<N∧fw L (j+1) a a<0)∧∀i,i≤j→Tab L N i (fw L i))∨∀i,i≤k→Tab L N i (fw L i):=by
  intro k
  induction k with
  |zero=>exact fun _=>.inr fun i hi=>by have h0:i=0:=(by omega); subst h0; exact ak8 hS
  |succ k ih =>
   intro hk;rcases ih (by omega) with⟨j,h1,h2⟩|h
   ·exact .inl ⟨j,by omega,h2⟩
   ·have hT:=h k (cJ _);obtain⟨s1,s2,s3⟩:=aeN hS (by omega) hT
    by_cases hb:∃a:Int,0≤a∧a<N∧fw L (k+1) a a<0
    ·exact .inl ⟨k,by omega,hT,hb,h⟩
    ·refine .inr fun i hi=>?_;rcases Nat.lt_or_eq_of_le hi with hi|rfl
     ·exact h i (by omega)
     ·refine⟨s1,s2,fun a h0 h1=>?_⟩;have:=s3 a h0 h1;rcases gx (fw L (k+1) a a) 0 with q|q
      ·exact absurd ⟨a,h0,h1,q⟩ hb
      ·have e:fw L (k+1) a a=upF (fw L k) k a a:=rfl;omega
 rcases this N (cJ _) with⟨j,h1,h2⟩|h
 ·exact .inl ⟨j,h1,h2⟩
 ·exact .inr h
def alW (hS:į L N) {j:Nat} (hj:j<N) (hT:Tab L N j (fw L j)) (hb:∃a:Int,0≤a∧a<N∧fw L (j+1) a a<0):ģ L N=false:=by
 have hn:=hS.n60;obtain⟨a,h0,h1,h2⟩:=hb;rw[Bool.eq_false_iff];intro ho;obtain⟨p,hp⟩:=(Ĭ hS.links (by omega)).1 ho;obtain⟨s1,_,_⟩:=aeN hS hj hT;have e:fw L (j+1) a a=upF (fw L j) j a a:=rfl;rw[e] at h2;have:=wi_pot hp (s1 a a h0 h1 h0 h1 (by unfold ľ; omega));omega
def ajo (hS:į L N) (hT:Tab L N N (fw L N)):ģ L N=true:=by
 cases ho:ģ L N with
 |true=>rfl
 |false =>
  obtain⟨n,v,d,_,_,h3,h4,h5⟩:=Ud hS ho;have:=hT.closed v d h3.1 h3.2 (.of_wk hS.inr (dF _) h4);omega
def fw_dst (hS:į L N) (ht:vZ L N) (hT:Tab L N N (fw L N)) {a b:Int} (ha:0≤a∧a<N) (hb:0≤b∧b<N):fw L N a b=dst L N a b:=by
 have ho:=ajo hS hT;obtain⟨vs,hw⟩:=al6 hS ht ho ha hb;obtain⟨h1,h2⟩:=hT.le a b _ ha.1 ha.2 hb.1 hb.2 (.of_wl hS.inr (dF _) hw);obtain⟨vs',hw'⟩:=(hT.att a b ha.1 ha.2 hb.1 hb.2 h2).wl;have:=an1 hS ho ha hw';omega
end
section
variable {ρ:Type} {L:List Lk} {N:Nat}
def ak6 (hN:N≤60) {u:Int} (hu:0≤u∧u<N) (K:List Int→Option ρ) :
 Ò (fun(v7:Int×List Int) kk10=>lh (N:Int) u v7.1 v7.2 (fun u8 u9=>kk10 (u8,u9)) K) ((0:Int),List.replicate N (0:Int))=K (Rx N (adU u)):=by
 refine ð (List.replicate N ()) (fun i=>Rx N fun b=>if b<i then adU u b else 0) _ ?_ (fun i a hi ha kn=>?_) (fun kn=>?_)
 ·unfold Rx;refine List.ext_getElem? fun j=>?_;rw[List.getElem?_map,List.getElem?_replicate]
  by_cases hj:j<N
  ·rw[fc hj,if_pos hj];simp only[dL];rw[if_neg (by omega)]
  ·rw[fH (by simpa using hj),if_neg hj];rfl
 ·try dsimp only
  unfold lh;rw[List.length_replicate] at hi;have e0:ľ=(1152921504606846976:Int):=rfl;rw[Ó (decide_eq_true (by omega)),ob,Ě (by omega) (by omega),mC _ (by omega) (by omega),acD _ (by omega)]
  by_cases h:u=(i:Int)
  ·rw[Ó (beq_iff_eq.2 h),ob,Ě (by omega) (by omega),mC _ (by omega) (by omega),Õ (by omega) (by omega),acD _ (by omega)];congr 1;refine Vt fun v h0 h1=>?_
   by_cases hv:v=(i:Int)
   ·rw[if_pos hv,if_pos (by push_cast; omega)]; unfold adU; rw[if_pos (by omega)]
   ·rw[if_neg hv,if_neg hv]
    by_cases h2:v<(i:Int)
    ·rw[if_pos h2,if_pos (by push_cast; omega)]
    ·rw[if_neg h2,if_neg (by push_cast; omega)]
  ·rw[Ð (beq_eq_false_iff_ne.2 h),Õ (by omega) (by omega)];congr 1;refine Vt fun v h0 h1=>?_
   by_cases hv:v=(i:Int)
   ·rw[if_pos hv,if_pos (by push_cast; omega)]; unfold adU; rw[if_neg (by omega),e0]
   ·rw[if_neg hv]
    by_cases h2:v<(i:Int)
    ·rw[if_pos h2,if_pos (by push_cast; omega)]
    ·rw[if_neg h2,if_neg (by push_cast; omega)]
 ·try dsimp only
  unfold lh;rw[List.length_replicate,Ð (decide_eq_false (by omega))];congr 1;exact Vt fun v h0 h1=>if_pos h1
def ak7 (hN:N≤60) (K:List (List Int)→Option ρ) :
 Ò (fun(v74:Int×List (List Int)) kk77=>lm (N:Int) v74.1 v74.2 (fun u75 u76=>kk77 (u75,u76)) K) ((0:Int),[])=K (AU N adU):=by
 refine ð (List.replicate N ()) (fun i=>(List.range i).map fun(u:Nat)=>Rx N (adU u)) _ rfl (fun i a hi ha kn=>?_) (fun kn=>?_)
 ·try dsimp only
  unfold lm;rw[List.length_replicate] at hi;rw[Ó (decide_eq_true (by omega)),ĝ (by simp[å]; omega),Int.toNat_natCast];refine(ak6 hN ⟨by omega,by omega⟩ _).trans ?_;rw[ĝ (Ö (by simp only[List.length_map,List.length_range,List.length_singleton]; omega)),Õ (by omega) (by omega)];congr 2;rw[List.range_succ,List.map_append];rfl
 ·try dsimp only
  unfold lm;rw[List.length_replicate,Ð (decide_eq_false (by omega))];rfl
def ak5 (hS:į L N) (K:List (List Int)→Option ρ) :
 Ò (fun(v70:Int×List (List Int)) kk73=>lg L v70.1 v70.2 (fun u71 u72=>kk73 (u71,u72)) K) ((0:Int),AU N adU)=K (AU N (fw L 0)):=by
 have hl3:=hS.len;refine ð L (fun i=>AU N ((L.take i).foldl lkF adU)) _ rfl (fun i l hi hl kn=>?_) (fun kn=>?_)
 ·try dsimp only
  unfold lg;have hr:=hS.inr l (List.mem_of_getElem? hl);obtain⟨⟨a0,a1⟩,b0,b1⟩:=hr;rw[Ô hi,Ë hl];simp only[ue,Ě a0 a1,qm _ a0 a1,ob,Ě b0 b1,mC _ b0 b1];rw[Î hi (by omega),ah8 _ a0 b0,take_succ hl,List.foldl_append];congr 2;refine rt fun u v _ _ _ _=>?_;simp only[List.foldl_cons,List.foldl_nil,lkF,vx]
 ·try dsimp only
  unfold lg;rw[à,List.take_length];rfl
def ak4 (hS:į L N) {k:Nat} (hk:k<N) {f:Int→Int→Int} (hT:Tab L N k f) {u:Int} (hu:0≤u∧u<N) (hne:f u k≠ľ) {g:Int→Int→Int} (hgk:∀b:Int,0≤b→b<N→g k b=f k b) (hgu:∀b:Int,0≤b→b<N→g u b=f u b) (K:List (List Int)→Option ρ) :
 Ò (fun(v45:Int×List (List Int)) kk48=>ld (k:Int) u (N:Int) v45.1 v45.2 (fun u46 u47=>kk48 (u46,u47)) K) ((0:Int),AU N g)=K (AU N fun a b=>if a=u then upF f k a b else g a b):=by
 have hn:=hS.n60
 have hk0:(0:Int)≤k∧(k:Int)<N:=by omega
 have hdk:=hT.diag k hk0.1 hk0.2;have e0:ľ=(1152921504606846976:Int):=rfl
 have rowk:∀b:Int,upF f k k b=f k b:=fun b=>by
  unfold upF;rw[hdk];rw[if_neg (by decide)]
  split
  ·rfl
  ·omega
 have colk:upF f k u k=f u k:=by
  unfold upF;rw[if_neg hne,hdk,if_neg (by decide)];omega
 refine ð (List.replicate N ()) (fun i=>AU N fun a b=>if a=u∧b<i then upF f k a b else g a b) _ ?_ (fun i a hi ha kn=>?_) (fun kn=>?_)
 ·exact rt fun a b _ _ hb _=>if_neg (by omega)
 ·try dsimp only
  unfold ld;rw[List.length_replicate] at hi
  have hi0:(0:Int)≤i∧(i:Int)<N:=by omega
  -- what lies in row k, and in row u at k
  have r1:(if (k:Int)=u∧(i:Int)<i then upF f k k i else g k i)=f k i:=by rw[if_neg (by omega)]; exact hgk i hi0.1 hi0.2
  have r2:(if u=u∧(i:Int)<i then upF f k u i else g u i)=f u i:=by rw[if_neg (by omega)]; exact hgu i hi0.1 hi0.2
  have r3:(if u=u∧(k:Int)<i then upF f k u k else g u k)=f u k:=by
   split
   ·exact colk
   ·exact hgu k hk0.1 hk0.2
  have step:∀x:Int,(fun(a b:Int)=>if a=u∧b=(i:Int) then x else if a=u∧b<(i:Int) then upF f k a b else g a b)=fun a b=>if a=u∧b<((i+1:Nat):Int) then(if b=(i:Int) then x else upF f k a b) else g a b:=fun x=>by
   funext a b
   by_cases h1:a=u
   ·by_cases h2:b=(i:Int)
    ·rw[if_pos ⟨h1,h2⟩,if_pos ⟨h1,by push_cast; omega⟩,if_pos h2]
    ·by_cases h3:b<(i:Int)
     ·rw[if_neg (fun h=>h2 h.2),if_pos ⟨h1,h3⟩,if_pos ⟨h1,by push_cast; omega⟩,if_neg h2]
     ·rw[if_neg (fun h=>h2 h.2),if_neg (fun h=>h3 h.2),if_neg (fun h=>by have:=h.2; push_cast at this; omega)]
   ·rw[if_neg (fun h=>h1 h.1),if_neg (fun h=>h1 h.1),if_neg (fun h=>h1 h.1)]
  rw[Ó (decide_eq_true hi0.2)];simp only[-eq_self,ue,Ě hk0.1 hk0.2,qm _ hk0.1 hk0.2,ob,Ě hi0.1 hi0.2,mC _ hi0.1 hi0.2,r1]
  by_cases h2:f k i=ľ
  ·rw[Ð (by rw[h2]; rfl),Õ (by omega) (by omega)];congr 2;refine rt fun a b ha _ hb _=>?_
   by_cases h3:a=u∧b<(i:Int)
   ·rw[if_pos h3,if_pos ⟨h3.1,by push_cast; omega⟩]
   ·rw[if_neg h3]
    by_cases h4:a=u∧b=(i:Int)
    ·rw[if_pos ⟨h4.1,by push_cast; omega⟩,h4.1,h4.2];unfold upF;rw[if_neg hne,if_pos h2];exact hgu i hi0.1 hi0.2
    ·rw[if_neg (fun h=>by have:=h.2; push_cast at this; omega)]
  ·have b1:=hT.bd hS hu hk0 hne;have b2:=hT.bd hS hk0 hi0 h2;rw[Ó (bne_iff_ne.2 h2)];simp only[-eq_self,ue,Ě hu.1 hu.2,qm _ hu.1 hu.2,ob,Ě hi0.1 hi0.2,mC _ hi0.1 hi0.2,Ě hk0.1 hk0.2,mC _ hk0.1 hk0.2,qm _ hk0.1 hk0.2,r1,r2,r3];rw[Õ (by omega) (by omega)]
   try simp only[-eq_self,ue,Ě hu.1 hu.2,qm _ hu.1 hu.2,ob,Ě hi0.1 hi0.2,mC _ hi0.1 hi0.2]
   rw[Õ (by omega) (by omega),ah8 _ hu.1 hi0.1,step];congr 2;refine rt fun a b ha _ hb _=>?_
   by_cases h3:a=u∧b<((i+1:Nat):Int)
   ·rw[if_pos h3,if_pos h3]
    by_cases h4:b=(i:Int)
    ·rw[if_pos h4,h3.1,h4,vx];unfold upF;rw[if_neg hne,if_neg h2]
    ·rw[if_neg h4]
   ·rw[if_neg h3,if_neg h3]
 ·try dsimp only
  unfold ld;rw[List.length_replicate,Ð (decide_eq_false (by omega))];congr 1;refine rt fun a b _ _ _ hb=>?_
  by_cases h:a=u
  ·rw[if_pos ⟨h,hb⟩,if_pos h]
  ·rw[if_neg (fun q=>h q.1),if_neg h]
def aeM (hS:į L N) {k:Nat} (hk:k<N) {f:Int→Int→Int} (hT:Tab L N k f) (K:List (List Int)→Option ρ) :
 Ò (fun(v60:Int×List (List Int)) kk63=>lf (k:Int) (N:Int) v60.1 v60.2 (fun u61 u62=>kk63 (u61,u62)) K) ((0:Int),AU N f)=K (AU N (upF f k)):=by
 have hn:=hS.n60
 have hk0:(0:Int)≤k∧(k:Int)<N:=by omega
 have hdk:=hT.diag k hk0.1 hk0.2
 have rowk:∀b:Int,upF f k k b=f k b:=fun b=>by
  unfold upF;rw[hdk];rw[if_neg (by decide)]
  split
  ·rfl
  ·omega
 refine ð (List.replicate N ()) (fun i=>AU N fun a b=>if a<i then upF f k a b else f a b) _ ?_ (fun i a hi ha kn=>?_) (fun kn=>?_)
 ·exact rt fun a b ha _ _ _=>if_neg (by omega)
 ·try dsimp only
  unfold lf;rw[List.length_replicate] at hi
  have hi0:(0:Int)≤i∧(i:Int)<N:=by omega
  have r1:(if (i:Int)<i then upF f k i k else f i k)=f i k:=if_neg (by omega);rw[Ó (decide_eq_true hi0.2)];simp only[ue,Ě hi0.1 hi0.2,qm _ hi0.1 hi0.2,ob,Ě hk0.1 hk0.2,mC _ hk0.1 hk0.2,r1]
  by_cases h1:f i k=ľ
  ·rw[Ó (beq_iff_eq.2 h1),Õ (by omega) (by omega)];congr 2;refine rt fun a b ha _ hb _=>?_
   by_cases h2:a<(i:Int)
   ·rw[if_pos h2,if_pos (by push_cast; omega)]
   ·rw[if_neg h2]
    by_cases h3:a=(i:Int)
    ·rw[if_pos (by push_cast; omega),h3];unfold upF;rw[if_pos h1]
    ·rw[if_neg (by push_cast; omega)]
  ·rw[Ð (beq_eq_false_iff_ne.2 h1)];refine(ak4 hS hk hT hi0 h1 (fun b _ _=>?_) (fun b _ _=>if_neg (by omega)) _).trans ?_
   ·split
    ·exact rowk b
    ·rfl
   ·rw[Õ (by omega) (by omega)];congr 2;refine rt fun a b ha _ hb _=>?_
    by_cases h3:a=(i:Int)
    ·rw[if_pos h3,if_pos (by push_cast; omega)]
    ·rw[if_neg h3]
     by_cases h2:a<(i:Int)
     ·rw[if_pos h2,if_pos (by push_cast; omega)]
     ·rw[if_neg h2,if_neg (by push_cast; omega)]
 ·try dsimp only
  unfold lf;rw[List.length_replicate,Ð (decide_eq_false (by omega))];congr 1;exact rt fun a b _ ha _ _=>if_pos ha
def ak3 (hN:N≤60) (f:Int→Int→Int) (X Y:Option ρ) :
 Ò (fun(v57:Int) kk59=>iB (N:Int) (AU N f) v57 (fun u58=>kk59 u58) (fun _=>X) (fun _=>Y)) (0:Int)=if ((List.range N).any fun(a:Nat)=>decide (f a a<0)) then X else Y:=by
 refine Ļ (List.range N) (fun a=>decide (f a a<0)) (fun _=>X) X Y (fun _=>rfl) (fun i a hi ha kn=>?_) (fun kn=>?_)
 ·try dsimp only
  unfold iB;rw[List.length_range] at hi
  have hia:a=i:=by rw[fc hi] at ha; exact(Option.some.inj ha).symm
  subst hia
  have hi0:(0:Int)≤a∧(a:Int)<N:=by omega
  rw[Ó (decide_eq_true hi0.2)];simp only[ue,Ě hi0.1 hi0.2,qm _ hi0.1 hi0.2,ob,mC _ hi0.1 hi0.2];rw[Õ (by omega) (by omega),Ĥ]
 ·try dsimp only
  unfold iB;rw[List.length_range,Ð (decide_eq_false (by omega))]
def amF (hS:į L N) (ht:vZ L N):tK ((N:Int),L)=some (if ģ L N then(AU N (dst L N),true) else([],false)):=by
 have hn:=hS.n60;unfold tK Ix;dsimp only;refine(ak7 hn _).trans ?_;refine(ak5 hS _).trans ?_
 have anyOf:∀k:Nat,((List.range N).any fun(a:Nat)=>decide (fw L k a a<0))=true↔∃a:Int,0≤a∧a<N∧fw L k a a<0:=fun k=>by
  rw[eR];constructor
  ·rintro⟨a,h1,h2⟩;have:=List.mem_range.1 h1;exact⟨a,by omega,by omega,of_decide_eq_true h2⟩
  ·rintro⟨a,h0,h1,h2⟩;exact⟨a.toNat,List.mem_range.2 (by omega),decide_eq_true (by rw[show((a.toNat:Nat):Int)=a by omega]; exact h2)⟩
 rcases fw_all hS with⟨j,hj,hT,hb,hall⟩|hall
 ·rw[alW hS hj hT hb,if_neg (by simp)];refine ń (fun v=>∃k:Nat,k≤j∧v=((k:Int),AU N (fw L k))∧Tab L N k (fw L k)) (fun v=>N-v.1.toNat) ?_ ⟨0,by omega,rfl,hall 0 (by omega)⟩;rintro v ⟨k,hkj,rfl,hTk⟩;dsimp only
  have hL6:∀kn:Int×List (List Int)→Option (List (List Int)×Bool),jr (N:Int) (k:Int) (AU N (fw L k)) (fun u67 u68=>kn (u67,u68)) (fun z64=>some (([]:List (List Int)),z64.1)) (fun z65=>some (z65,true))=if ((List.range N).any fun(a:Nat)=>decide (fw L (k+1) a a<0)) then some ([],false) else kn ((k:Int)+1,AU N (fw L (k+1))):=fun kn=>by
   unfold jr;rw[Ó (decide_eq_true (by omega))];refine(aeM hS (by omega) hTk _).trans ?_;have:=ak3 hn (upF (fw L k) k) (some (([]:List (List Int)),false)) (ck ((k:Int)+1) fun n56=>kn (n56,AU N (upF (fw L k) k)));rw[Õ (by omega) (by omega)] at this;refine Eq.trans ?_ this;rw[Õ (by omega) (by omega)];congr 1
  rcases Nat.lt_or_eq_of_le hkj with hlt|rfl
  ·refine .inr ⟨(((k+1:Nat):Int),AU N (fw L (k+1))),⟨k+1,hlt,rfl,hall (k+1) hlt⟩,by dsimp only; omega,fun kn=>?_⟩;have hd:=hall (k+1) hlt;rw[hL6 kn,if_neg]
   ·push_cast; rfl
   ·intro h;obtain⟨a,h0,h1,h2⟩:=(anyOf (k+1)).1 h;rw[hd.diag a h0 h1] at h2;omega
  ·refine .inl fun kn=>?_;rw[hL6 kn,if_pos ((anyOf (k+1)).2 hb)]
 ·have hT:=hall N (Nat.le_refl _);rw[ajo hS hT,if_pos rfl];refine ń (fun v=>∃k:Nat,k≤N∧v=((k:Int),AU N (fw L k))) (fun v=>N-v.1.toNat) ?_ ⟨0,by omega,rfl⟩;rintro v ⟨k,hkj,rfl⟩;dsimp only;rcases Nat.lt_or_eq_of_le hkj with hlt|rfl
  ·have hd:=hall (k+1) hlt;refine .inr ⟨(((k+1:Nat):Int),AU N (fw L (k+1))),⟨k+1,hlt,rfl⟩,by dsimp only; omega,fun kn=>?_⟩;unfold jr;rw[Ó (decide_eq_true (by omega))];refine(aeM hS hlt (hall k hkj) _).trans ?_;refine ń (fun v=>∃a:Nat,a≤N∧v=(a:Int)) (fun v=>N-v.toNat) ?_ ⟨0,by omega,rfl⟩;rintro v ⟨a,ha,rfl⟩;rcases Nat.lt_or_eq_of_le ha with hl|rfl
   ·have ha0:(0:Int)≤a∧(a:Int)<N:=by omega
    refine .inr ⟨((a+1:Nat):Int),⟨a+1,hl,rfl⟩,by omega,fun kn'=>?_⟩;unfold iB;have hda:upF (fw L k) k a a=0:=hd.diag a ha0.1 ha0.2;rw[Ó (decide_eq_true ha0.2)];simp only[ue,Ě ha0.1 ha0.2,qm _ ha0.1 ha0.2,ob,mC _ ha0.1 ha0.2,hda];rw[Ð (by rfl),Õ (by omega) (by omega)];push_cast;rfl
   ·refine .inl fun kn'=>?_;unfold iB;rw[Ð (decide_eq_false (by omega)),Õ (by omega) (by omega)];push_cast;rfl
  ·refine .inl fun kn=>?_;unfold jr;rw[Ð (decide_eq_false (by omega))];refine congrArg _ (congrArg (·,true) ?_);exact rt fun a b h0 h1 h2 h3=>fw_dst hS ht hT ⟨h0,h1⟩ ⟨h2,h3⟩
end
def zC (n lo hi:Int):lz n lo hi=some (inP n lo hi):=by
 unfold lz ac2 inP ige ile
 cases h:decide (lo≤n)<;>simp_all
def YC (n:Int):vH n=some (HO n):=by
 unfold vH Wv;rw[zC]; rfl
def wa (s:Int×Int) (lo hi:Int):jj s lo hi=some (jK s lo hi):=by
 unfold jj xv jK ile
 cases decide (lo≤s.1)<;>cases decide (s.1≤s.2)<;>rfl
def aok {l:List Int} (hn:l.length≤1000000) (x:Int):Nb l x=some (l.contains x):=by
 unfold Nb Ws;refine Eq.trans (Ļ l (fun a=>a==x) (fun _=>some true) (some true) (some false) (fun _=>rfl) (fun i a hi ha kn=>?_) (fun kn=>?_)) ?_
 ·try dsimp only
  unfold uB;rw[Ô hi,Ë ha,Î hi (by omega),Ĥ]
 ·try dsimp only
  unfold uB;rw[à]
 ·have:l.any (fun a=>a==x)=l.contains x:=by
   rw[dJ,eR,ee];constructor
   ·rintro⟨a,ha,e⟩; rw[←eq_of_beq e]; exact ha
   ·intro h; exact⟨x,h,by simp⟩
  rw[this]
  cases l.contains x<;>rfl
def agQ {a b:List Int} {i:Nat} {x:Int} (h:a[i]?=some x):è (a.take (i+1)) b=è (a.take i) b++if b.contains x then[] else[x]:=by
 rw[take_succ h,è,è,fj];congr 1
 cases hx:b.contains x<;>simp only[dN,hx,dR,fL,dg,if_false,if_true,dU]
def YB {a b:List Int} (ha:a.length≤1000000) (hb:b.length≤1000000):jS a b=some (è a b):=by
 unfold jS OK;refine ð a (fun i=>è (a.take i) b) _ rfl (fun i x hi hx kn=>?_) (fun kn=>?_)
 ·try dsimp only
  unfold qy
  have hl:(è (a.take i) b).length≤1000000:=by
   have:=y0 (a.take i) b;rw[cZ] at this;omega
  rw[Ô hi,Ë hx,aok hb,À,agQ hx]
  cases b.contains x with
  |true=>rw[Ð (by rfl),Î hi (by omega)]; simp
  |false=>rw[Ó (by rfl),Ë hx,Ö (by simp only[dC]; omega),Am.iff_true,Î hi (by omega)]; simp
 ·try dsimp only
  unfold qy;rw[à,List.take_length]
def LF (a b:List Int):Int:=(è a b).head?.getD 0
def J0 {a b:List Int} (ha:a.length≤1000000) (hb:b.length≤1000000):oz a b=some (LF a b):=by
 unfold oz V5 LF;rw[YB ha hb,À,á]
 cases h:è a b with
 |nil=>rfl
 |cons x t =>
  rw[Ð (by simp[ieq]; omega)];exact Ë (i:=0) rfl _
def Nl {b:Þ} (hn:b.2.1.length≤1000000) (id:Int):pJ b id=some (match b.2.1.findIdx? (fun g=>g.1==id) with|some j=>(j:Int)|none=>-1):=by
 unfold pJ OQ;refine Eq.trans (δ b.2.1 (fun g=>g.1==id) (fun z=>some z) (some (-1)) (fun i a hi ha kn=>?_) (fun kn=>?_)) ?_
 ·try dsimp only
  unfold qz;rw[Ô hi,Ë ha,Î hi (by omega),Ĥ]
 ·try dsimp only
  unfold qz;rw[à]
 ·cases List.findIdx? (fun g:ê=>g.1==id) b.2.1<;>rfl
def Aa {b:Þ} {id:Int}:(∃j g,b.2.1.findIdx? (fun g=>g.1==id)=some j∧b.2.1[j]?=some g∧Ů b id=some g)∨(b.2.1.findIdx? (fun g=>g.1==id)=none∧Ů b id=none):=by
 unfold Ů;rw[X2]
 cases h:b.2.1.findIdx? (fun g=>g.1==id) with
 |none=>exact .inr ⟨rfl,rfl⟩
 |some j =>
  obtain⟨hj,_,_⟩:=dI.1 h;exact .inl ⟨j,_,rfl,cI hj,cI hj⟩
def ψ (b:Þ) (id day:Int):Int:=match Ů b id with|some g=>if day<g.2.1 then 4 else 0|none=>5
def HG {b:Þ} (hn:b.2.1.length≤1000000) (id day:Int):mq b id day=some (ψ b id day):=by
 unfold mq Ip ψ;rw[Nl hn,À];rcases Aa (b:=b) (id:=id) with⟨j,g,h1,h2,h3⟩|⟨h1,h2⟩
 ·rw[h1,h3]
  try dsimp only
  rw[Ð (by simp[ilt]),Ë h2,Ĥ]
  by_cases hd:day<g.2.1
  ·rw[if_pos (by simpa[ilt] using hd),if_pos hd]
  ·rw[if_neg (by simpa[ilt] using hd),if_neg hd]
 ·rw[h1,h2];rfl
def Ct {b:Þ} (hi:b.2.1.Pairwise fun a b=>a.1<b.1) (id day:Int):ψ b id day=mP (iw b) id day:=by
 unfold ψ mP;rw[zM hi]
 cases Ů b id<;>rfl
def af6 {b:Þ} (hn:b.2.2.2.1.length≤1000000) (id day:Int):ze b id day=some (match lJ b id day with|some l=>(l,true)|none=>((0,(0,0),0),false)):=by
 unfold ze OI;refine aiW b.2.2.2.1 (fun _=>((0:Int),(0:Int),(0:Int),(0:Int))) _ (fun i=>∀l∈b.2.2.2.1.take i,(l.1==id&&inP day l.2.1.1 l.2.1.2)=false) rfl (by simp) (fun i a hi ha hP kn=>?_) (fun hP kn=>?_)
 ·try dsimp only
  unfold qx;rw[Ô hi,Ë ha]
  by_cases hm:(a.1==id&&inP day a.2.1.1 a.2.1.2)=true
  ·refine .inl ?_;have hm2:=hm;simp only[inP,cM,beq_iff_eq,decide_eq_true_eq] at hm2;rw[Ó (by simp[ieq,hm2.1]),Ó (by simp[ile,hm2.2.1]),Ó (by simp[ile,hm2.2.2])]
   have hf:lJ b id day=some a:=by
    unfold lJ;obtain⟨hi',rfl⟩:=List.getElem?_eq_some_iff.1 ha;rw[List.find?_eq_some_iff_getElem];refine⟨hm,i,hi',rfl,fun j hj=>?_⟩;have:=hP b.2.2.2.1[j] (List.mem_iff_getElem.2 ⟨j,by rw[List.length_take]; omega,by rw[List.getElem_take]⟩);simp[this]
   rw[hf]
  ·refine .inr ⟨fun l hl=>?_,?_⟩
   ·rw[take_succ ha,cQ,cY] at hl;rcases hl with hl|rfl
    ·exact hP l hl
    ·simpa using hm
   ·have hm2:=hm;simp only[inP,cM,beq_iff_eq,decide_eq_true_eq] at hm2
    by_cases h1:a.1=id
    ·by_cases h2:a.2.1.1≤day
     ·rw[Ó (by simp[ieq,h1]),Ó (by simp[ile,h2]),Ð (by simp[ile]; exact Int.lt_of_not_ge fun h3=>hm2 ⟨h1,h2,h3⟩),Î hi (by omega)]
     ·rw[Ó (by simp[ieq,h1]),Ð (by simp[ile]; omega),Î hi (by omega)]
    ·rw[Ð (by simp[ieq,h1]),Î hi (by omega)]
 ·try dsimp only
  unfold qx;rw[à]
  have:lJ b id day=none:=by
   unfold lJ;rw[List.find?_eq_none];intro l hl;have:=hP l (by rw[List.take_length]; exact hl);simp[this]
  rw[this]
def amL {b:Þ} (hn:b.2.2.1.length≤1000000) (id day:Int):Ha b id day=some (Ly b id day):=by
 unfold Ha Ot;refine Eq.trans (Ļ b.2.2.1 (fun u=>u.1==id&&u.2==day) (fun _=>some true) (some true) (some false) (fun _=>rfl) (fun i a hi ha kn=>?_) (fun kn=>?_)) ?_
 ·try dsimp only
  unfold qu;rw[Ô hi,Ë ha,Ë ha,Î hi (by omega)]
  cases h1:(a.1==id) with
  |false=>have:ieq a.1 id=false:=h1; simp[this]
  |true =>
   have:ieq a.1 id=true:=h1;rw[this]
   cases h2:(a.2==day) with
   |false=>have:ieq a.2 day=false:=h2; simp[this]
   |true=>have:ieq a.2 day=true:=h2; simp[this]
 ·try dsimp only
  unfold qu;rw[à]
 ·unfold Ly
  cases b.2.2.1.any _<;>rfl
def akF (a b:Nat):Ai a b=some ((Nat.gcd a b:Nat):Int):=by
 unfold Ai WG;refine ń (fun x:Int×Int=>∃c d:Nat,x=((c:Int),(d:Int))∧Nat.gcd c d=Nat.gcd a b) (fun x=>x.2.toNat) ?_ ⟨a,b,rfl,rfl⟩;rintro x ⟨c,d,rfl,hg⟩
 cases d with
 |zero =>
  refine .inl fun kn=>?_;rw[Nat.gcd_zero_right] at hg;unfold uD;simp[hg,ine]
 |succ d =>
  refine .inr ⟨(((d+1:Nat):Int),((c % (d+1):Nat):Int)),⟨d+1,c % (d+1),rfl,?_⟩,?_,fun kn=>?_⟩
  ·rw[←hg,gM c (d+1),Nat.gcd_rec (d+1) c,gM]
  ·have:=gB c (gy d);simp only[dl];omega
  ·unfold uD
   have h1:ine ((d+1:Nat):Int) 0=true:=by simp[ine]; omega
   have h2:Ŋ ((d+1:Nat):Int) 0=false:=by simp[Ŋ]; omega
   simp only[h1,Ó Ð h2];congr 1
def akH {n:Int} (h : -9223372036854775807≤n∧n≤9223372036854775807):He n=some (n.natAbs:Int):=by
 unfold He WL
 by_cases hn:n<0
 ·rw[Ó (by simpa[ilt] using hn),Õ (by omega) (by omega)];congr 1;omega
 ·rw[Ð (by simpa[ilt] using hn)];congr 1;omega
def akA (r:Int×Int):Ag r=some (J8 r):=by
 unfold Ag Iz J8
 by_cases h1:1≤r.2
 ·rw[Ð (by simp[ilt]; omega)]
  by_cases h2:r.2≤2147483647
  ·rw[Ð (by simp[igt]; omega)]
   by_cases h3:r.1 < -2147483647
   ·rw[Ó (by simp[ilt]; omega)]
    have:¬((r.1.natAbs:Int)≤2147483647):=by omega
    simp[this]
   ·rw[Ð (by simp[ilt]; omega)]
    by_cases h4:2147483647<r.1
    ·rw[Ó (by simp[igt]; omega)]
     have:¬((r.1.natAbs:Int)≤2147483647):=by omega
     simp[this]
    ·rw[Ð (by simp[igt]; omega),akH ⟨by omega,by omega⟩,À]
     have h5:r.2=((r.2.natAbs:Nat):Int):=by omega
     have h6:((r.1.natAbs:Int)≤2147483647):=by omega
     rw[h5,akF,À,←h5];congr 1;rw[dJ];simp only[ieq,beq_iff_eq,h1,h2,h6,decide_true,dQ,decide_eq_true_eq];omega
  ·rw[Ó (by simp[igt]; omega)];simp[h2]
 ·rw[Ó (by simp[ilt]; omega)];simp[h1]
def aky (g:ê):Ae g=some (pF g):=by
 unfold Ae Im pF;rw[akA,zC,zC,YC,zC,wa,zC];simp only[À]
 have e:igt g.2.2.2.2.1.2 100=!decide (g.2.2.2.2.1.2≤100):=by
  rw[dJ]; simp[igt]
 rw[e]
 cases J8 g.2.2.2.2.1<;>cases inP g.2.2.2.2.1.1 (-1000) 1000<;>cases decide (g.2.2.2.2.1.2≤100)<;>cases inP g.1 1 1099511627776<;>cases HO g.2.1<;>cases inP g.2.2.1 1 1125899906842624<;>cases jK g.2.2.2.1 (-1073741824) 1073741824<;>rfl
def acO {l:List Int}:∀(m:List Int) (j:Nat) (x:Bool),Ĵ (wR l) j m=some x→x=false:=by
 intro m
 induction m with
 |nil=>intro j x h; cases h
 |cons a m ih =>
  intro j x h;unfold Ĵ at h
  cases hp:wR l j a with
  |none=>rw[hp] at h; exact ih _ _ h
  |some y =>
   rw[hp] at h;cases h;unfold wR at hp
   split at hp
   ·cases hp; rfl
   ·split at hp
    ·cases hp; rfl
    ·cases hp
def af5 {l:List Int} (hn:l.length≤1000000):zd l=some (lM l):=by
 unfold zd Oy;refine Eq.trans (kB l (wR l) some (some (decide (l.length≤6))) (fun i a hi ha kn=>?_) (fun kn=>?_)) ?_
 ·try dsimp only
  unfold qv;rw[Ô hi,Ë ha,zC,À];unfold wR
  cases inP a 1 1099511627776 with
  |false=>rfl
  |true =>
   simp only[dR,é,dg,if_false];rcases fi i with h0|h0
   ·subst h0
    have:igt ((0:Nat):Int) 0=false:=by simp[igt]
    rw[Ð this,Î hi (by omega)];simp[DN]
   ·obtain⟨q,hq⟩:=D6 hi h0
    have h1:igt (i:Int) 0=true:=by simp[igt]; omega
    rw[Ó h1,Ë ha,Q1 h0 (by omega),GZ h0 hq];simp only[DN,h0,decide_true,Bool.true_and,hq,Option.any_some];unfold ile
    cases h2:decide (a≤q) with
    |true=>rfl
    |false =>
     rw[é,Î hi (by omega)];rfl
 ·try dsimp only
  unfold qv;rw[à,á];simp[ile];omega
 ·unfold lM
  cases h:Ĵ (wR l) 0 l with
  |none=>rfl
  |some x=>rw[acO _ _ _ h]
def akw {c:Cmp} (hA:c.2.2.1.length≤1000000) (hB:c.2.2.2.1.length≤1000000):Ac c=some (LG c):=by
 unfold Ac Ij LG;rw[af5 hA,af5 hB,zC,YC,zC,zC,wa];simp only[À]
 cases lM c.2.2.1<;>cases lM c.2.2.2.1<;>cases inP c.1 1 1099511627776<;>cases HO c.2.1<;>cases inP c.2.2.2.2.1 (-1125899906842624) 1125899906842624<;>cases inP c.2.2.2.2.2.1 0 1073741824<;>cases jK c.2.2.2.2.2.2 (-10000) 10000<;>rfl
def YL (b:Þ) (u:Int×Int):Int:=if !HO u.2 then 1 else ψ b u.1 u.2
def aeG {b:Þ} (hi:b.2.1.Pairwise fun a b=>a.1<b.1) (u:Int×Int):YL b u=agf (iw b) u.1 u.2:=by
 unfold YL agf;rw[Ct hi]
def afC (e:Int):Option Int:=if e=0 then none else some e
def JF {α:Type} (E:Nat→α→Int):∀(k:Nat) (l:List α),Ĵ (fun i a=>afC (E i a)) k l=(l.mapIdx fun i a=>E (i+k) a).find? (fun e=>e != 0)
 |_,[]=>rfl
 |k,a::t=>by
  unfold Ĵ;rw[JF E (k+1) t,List.mapIdx_cons,List.find?_cons];unfold afC
  by_cases h:E k a=0
  ·simp only[h,if_true,dj];have:((0:Int) != 0)=false:=rfl;rw[this]
   have e:(fun(i:Nat) (a:α)=>E (i+(k+1)) a)=fun i a=>E (i+1+k) a:=by
    funext i a;congr 1;omega
   rw[e]
  ·simp only[h,if_false,dj]
   have:(E k a != 0)=true:=by simpa using h
   rw[this]
def QI {α:Type} (E:Nat→α→Int) (l:List α):Ĵ (fun i a=>afC (E i a)) 0 l=(l.mapIdx E).find? (fun e=>e != 0):=JF E 0 l
def QJ {α:Type} (E:α→Int) (l:List α):Ĵ (fun _ a=>afC (E a)) 0 l=(l.map E).find? (fun e=>e != 0):=by
 rw[JF (fun _ a=>E a) 0 l];congr 1
 exact List.ext_getElem (by simp) fun i h1 h2=>by simp
def amH {b:Þ} (hs:Γ b):G8 b=some (((b.2.2.1.map (YL b)).find? (fun e=>e != 0)).getD 0):=by
 have h1:=hs.gauges;have h2:=hs.uses;unfold G8 Og;refine Eq.trans (kB b.2.2.1 (fun _ u=>afC (YL b u)) some (some 0) (fun i a hi ha kn=>?_) (fun kn=>?_)) ?_
 ·try dsimp only
  unfold qo;rw[Ô hi,Ë ha,YC,À];unfold YL afC
  cases HO a.2 with
  |false=>rfl
  |true =>
   rw[Ð (by rfl),Ë ha,Ë ha,HG (b:=((b.1.1,b.1.2),b.2.1,b.2.2.1,b.2.2.2.1,b.2.2.2.2.1,b.2.2.2.2.2)) (by simp only; omega),À,Î hi (by omega)];have e:ψ ((b.1.1,b.1.2),b.2.1,b.2.2.1,b.2.2.2.1,b.2.2.2.2.1,b.2.2.2.2.2) a.1 a.2=ψ b a.1 a.2:=rfl;rw[e]
   by_cases hz:ψ b a.1 a.2=0
   ·rw[Ð (by simp[ine,hz])]; simp[hz]
   ·rw[Ó (by simp[ine,hz])]; simp[hz]
 ·try dsimp only
  unfold qo;rw[à]
 ·rw[QJ]
  cases List.find? (fun e=>e != 0) (b.2.2.1.map (YL b))<;>rfl
def Tx (b:Þ) (i:Nat) (l:Lv):Int :=
 if !jK l.2.1 0 20000 then 1 else if !inP l.2.2 0 1048576 then 1 else if ψ b l.1 l.2.1.1 != 0 then ψ b l.1 l.2.1.1 else
 if (b.2.2.2.1.take i).any (fun x=>x.1==l.1&&(decide (x.2.1.1≤l.2.1.2)&&decide (l.2.1.1≤x.2.1.2))) then 9 else
 if b.2.2.1.any (fun u=>u.1==l.1&&inP u.2 l.2.1.1 l.2.1.2) then 9 else 0
def ai3 {b:Þ} (hi:b.2.1.Pairwise fun a b=>a.1<b.1) (i:Nat) (l:Lv):Tx b i l=Tz b (iw b) i l:=by
 unfold Tx Tz;rw[Ct hi]
def akx {b:Þ} (hs:Γ b):Ad b=some (((b.2.2.2.1.mapIdx (Tx b)).find? (fun e=>e != 0)).getD 0):=by
 have h1:=hs.gauges;have h2:=hs.uses;have h3:=hs.loans;unfold Ad Ik;refine Eq.trans (kB b.2.2.2.1 (fun i l=>afC (Tx b i l)) some (some 0) (fun i l hi hl kn=>?_) (fun kn=>?_)) ?_
 ·try dsimp only
  unfold oe;rw[Ô hi,Ë hl,wa,À];unfold Tx afC
  cases jK l.2.1 0 20000 with
  |false=>rfl
  |true =>
  rw[Ð (by rfl),zC,À]
  cases inP l.2.2 0 1048576 with
  |false=>rfl
  |true =>
  rw[Ð (by rfl),HG (b:=((b.1.1,b.1.2),b.2.1,b.2.2.1,b.2.2.2.1,b.2.2.2.2.1,b.2.2.2.2.2)) (by simp only; omega),À];have e:ψ ((b.1.1,b.1.2),b.2.1,b.2.2.1,b.2.2.2.1,b.2.2.2.2.1,b.2.2.2.2.2) l.1 l.2.1.1=ψ b l.1 l.2.1.1:=rfl;rw[e]
  by_cases hz:ψ b l.1 l.2.1.1=0
  ·rw[Ð (by simp[ine,hz])]
   have hl9:(b.2.2.2.1.take i).length=i:=by rw[cZ]; omega
   have inner:Ò (fun(v21:Int) kk23=>kY b.2.2.1 l.1 l.2.1.1 l.2.1.2 v21 (fun u22=>kk23 u22) (fun z18=>(some z18:Option Int)) (fun _=>ck ((i:Int)+(1:Int)) fun n20=>kn n20)) (0:Int)=if b.2.2.1.any (fun u=>u.1==l.1&&inP u.2 l.2.1.1 l.2.1.2) then some 9 else kn ((i:Int)+1):=by
    refine Ļ b.2.2.1 _ (fun _=>some 9) (some 9) (kn ((i:Int)+1)) (fun _=>rfl) (fun j a hj ha kn'=>?_) (fun kn'=>?_)
    ·try dsimp only
     unfold kY;rw[Ô hj,Ë ha,Ë ha,zC,À,Î hj (by omega)]
     cases hq:(a.1==l.1) with
     |false=>have:ieq a.1 l.1=false:=hq; simp[this]
     |true =>
      have:ieq a.1 l.1=true:=hq;rw[this]
      cases inP a.2 l.2.1.1 l.2.1.2<;>simp
    ·try dsimp only
     unfold kY;rw[à];dsimp only;rw[Î hi (by omega)]
   try dsimp only
   rw[inner];refine eM (Ļ (b.2.2.2.1.take i) (fun x=>x.1==l.1&&(decide (x.2.1.1≤l.2.1.2)&&decide (l.2.1.1≤x.2.1.2))) (fun _=>some 9) (some 9) (if b.2.2.1.any (fun u=>u.1==l.1&&inP u.2 l.2.1.1 l.2.1.2) then some 9 else kn ((i:Int)+1)) (fun _=>rfl) (fun j a hj ha kn'=>?_) (fun kn'=>?_)) ?_
   ·try dsimp only
    unfold od;rw[hl9] at hj
    have ha':b.2.2.2.1[j]?=some a:=by rwa [List.getElem?_take_of_lt hj] at ha
    rw[Ó (show ilt (j:Int) (i:Int)=true by simp[ilt]; omega),Ë ha',Ë ha',Ë ha',Î hj (by omega)]
    cases hq:(a.1==l.1) with
    |false=>have:ieq a.1 l.1=false:=hq; simp[this]
    |true =>
     have:ieq a.1 l.1=true:=hq;rw[this]
     cases h5:decide (a.2.1.1≤l.2.1.2)<;>cases h6:decide (l.2.1.1≤a.2.1.2)<;>simp[ile,h5,h6,Ĥ]<;>simp_all
   ·try dsimp only
    unfold od;rw[hl9,Ð (show ilt (i:Int) (i:Int)=false by simp[ilt])]
   ·simp only[hz]
    cases List.any (b.2.2.2.1.take i) _<;>cases b.2.2.1.any _<;>rfl
  ·rw[Ó (by simp[ine,hz])]; simp[hz]
 ·try dsimp only
  unfold oe;rw[à]
 ·rw[QI (Tx b)]
  cases(b.2.2.2.1.mapIdx (Tx b)).find? (fun e=>e != 0)<;>rfl
def AZ (b:Þ) (c:Cmp):Int :=
 if (c.2.2.1++c.2.2.2.1).any (fun id=>ψ b id c.2.1==5) then 5 else
 if (c.2.2.1++c.2.2.2.1).any (fun id=>ψ b id c.2.1 != 0) then 4 else
 if (c.2.2.1++c.2.2.2.1).any (fun id=>(lJ b id c.2.1).isSome) then 9 else
 if 1<(è c.2.2.1 c.2.2.2.1).length then 1 else if 1<(è c.2.2.2.1 c.2.2.1).length then 1 else
 if (è c.2.2.1 c.2.2.2.1).length+(è c.2.2.2.1 c.2.2.1).length=0 then 1 else 0
def alq {b:Þ} (hi:b.2.1.Pairwise fun a b=>a.1<b.1) (c:Cmp):AZ b c=A0 b (iw b) c:=by
 unfold AZ A0;simp only[Ct hi]
 by_cases h5:(c.2.2.1++c.2.2.2.1).any (fun id=>mP (iw b) id c.2.1==5)=true
 ·rw[if_pos h5,if_pos h5]
 ·rw[if_neg h5,if_neg h5]
  have e:(c.2.2.1++c.2.2.2.1).any (fun id=>mP (iw b) id c.2.1 != 0)=(c.2.2.1++c.2.2.2.1).any (fun id=>mP (iw b) id c.2.1==4):=by
   rw[dJ,eR,eR];constructor
   ·rintro⟨x,hx,h⟩;refine⟨x,hx,?_⟩;rcases N9 (iw b) x c.2.1 with h1|h1|h1
    ·rw[h1] at h; cases h
    ·rw[h1]; rfl
    ·exact absurd (eR.2 ⟨x,hx,by rw[h1]; rfl⟩) h5
   ·rintro⟨x,hx,h⟩;refine⟨x,hx,?_⟩;rw[eq_of_beq h]; rfl
  rw[e]
def acA {b:Þ} {id d:Int}:(ψ b id d==5)=(b.2.1.findIdx? (fun g=>g.1==id)).isNone:=by
 unfold ψ;rcases Aa (b:=b) (id:=id) with⟨j,g,h1,h2,h3⟩|⟨h1,h2⟩
 ·rw[h1,h3]
  try dsimp only
  split<;>rfl
 ·rw[h1,h2]; rfl
set_option maxHeartbeats 1000000 in
def ace {b:Þ} (hs:Γ b) {c:Cmp} (hA:c.2.2.1.length≤1000) (hB:c.2.2.2.1.length≤1000):jz b c=some (AZ b c):=by
 have h1:=hs.gauges;have h3:=hs.loans;unfold jz ut AZ;rw[Ö (by omega),Am.iff_true,List.nil_append,Ö (by omega),Am.iff_true]
 have hl:(c.2.2.1++c.2.2.2.1).length≤2000:=by rw[cN]; omega
 generalize hP:c.2.2.1++c.2.2.2.1=P at hl
 have hol:∀{i:Nat},i<P.length→((ile (0:Int) (i:Int))&&(ilt (i:Int) (þ P)))=true:=fun {i} hi=>by simp[ile,ilt,þ]; omega
 have third:Ò (fun(v19:Int) kk21=>Μ b.1.1 b.1.2 b.2.1 b.2.2.1 b.2.2.2.1 b.2.2.2.2.1 b.2.2.2.2.2 c.2.1 P v19 (fun u20=>kk21 u20) (fun z14=>some z14) (fun _=>Ã (jS c.2.2.1 c.2.2.2.1) fun r16=>Ã (jS c.2.2.2.1 c.2.2.1) fun r17=>ifb (igt (Ú r16) (1:Int)) (some (1:Int)) (ifb (igt (Ú r17) (1:Int)) (some (1:Int)) (ck ((Ú r16)+(Ú r17)) fun n18=>ifb (ieq n18 (0:Int)) (some (1:Int)) (some (0:Int)))))) (0:Int) =
  some (if P.any (fun id=>(lJ b id c.2.1).isSome) then 9 else if 1<(è c.2.2.1 c.2.2.2.1).length then 1 else if 1<(è c.2.2.2.1 c.2.2.1).length then 1 else if (è c.2.2.1 c.2.2.2.1).length+(è c.2.2.2.1 c.2.2.1).length=0 then 1 else 0):=by
  refine eM (Ļ P (fun id=>(lJ b id c.2.1).isSome) (fun _=>some 9) (some 9) (some (if 1<(è c.2.2.1 c.2.2.2.1).length then 1 else if 1<(è c.2.2.2.1 c.2.2.1).length then 1 else if (è c.2.2.1 c.2.2.2.1).length+(è c.2.2.2.1 c.2.2.1).length=0 then 1 else 0)) (fun _=>rfl) (fun i a hi ha kn=>?_) (fun kn=>?_)) ?_
  ·try dsimp only
   unfold Μ;rw[Ô hi,ĝ (hol hi),Ī ha,af6 (b:=((b.1.1,b.1.2),b.2.1,b.2.2.1,b.2.2.2.1,b.2.2.2.2.1,b.2.2.2.2.2)) (by simp only; omega),À,Î hi (by omega)];have e:lJ ((b.1.1,b.1.2),b.2.1,b.2.2.1,b.2.2.2.1,b.2.2.2.2.1,b.2.2.2.2.2) a c.2.1=lJ b a c.2.1:=rfl;rw[e]
   cases lJ b a c.2.1<;>rfl
  ·try dsimp only
   unfold Μ;rw[à];dsimp only;have l1:=y0 c.2.2.1 c.2.2.2.1;have l2:=y0 c.2.2.2.1 c.2.2.1;rw[YB (by omega) (by omega),À,YB (by omega) (by omega),À];simp only[á]
   by_cases q1:1<(è c.2.2.1 c.2.2.2.1).length
   ·rw[Ó (by simp[igt]; omega),if_pos q1]
   ·rw[Ð (by simp[igt]; omega),if_neg q1]
    by_cases q2:1<(è c.2.2.2.1 c.2.2.1).length
    ·rw[Ó (by simp[igt]; omega),if_pos q2]
    ·rw[Ð (by simp[igt]; omega),if_neg q2,Õ (by omega) (by omega)]
     by_cases q3:(è c.2.2.1 c.2.2.2.1).length+(è c.2.2.2.1 c.2.2.1).length=0
     ·rw[Ó (by simp[ieq]; omega),if_pos q3]
     ·rw[Ð (by simp[ieq]; omega),if_neg q3]
  ·cases P.any _<;>rfl
 have second:Ò (fun(v22:Int) kk24=>iP b.1.1 b.1.2 b.2.1 b.2.2.1 b.2.2.2.1 b.2.2.2.2.1 b.2.2.2.2.2 c.2.1 P v22 (fun u23=>kk24 u23) (fun z9=>some z9) (fun _=>Ò (fun(v19:Int) kk21=>Μ b.1.1 b.1.2 b.2.1 b.2.2.1 b.2.2.2.1 b.2.2.2.2.1 b.2.2.2.2.2 c.2.1 P v19 (fun u20=>kk21 u20) (fun z14=>some z14) (fun _=>Ã (jS c.2.2.1 c.2.2.2.1) fun r16=>Ã (jS c.2.2.2.1 c.2.2.1) fun r17=>ifb (igt (Ú r16) (1:Int)) (some (1:Int)) (ifb (igt (Ú r17) (1:Int)) (some (1:Int)) (ck ((Ú r16)+(Ú r17)) fun n18=>ifb (ieq n18 (0:Int)) (some (1:Int)) (some (0:Int)))))) (0:Int))) (0:Int) =
  some (if P.any (fun id=>ψ b id c.2.1 != 0) then 4 else if P.any (fun id=>(lJ b id c.2.1).isSome) then 9 else if 1<(è c.2.2.1 c.2.2.2.1).length then 1 else if 1<(è c.2.2.2.1 c.2.2.1).length then 1 else if (è c.2.2.1 c.2.2.2.1).length+(è c.2.2.2.1 c.2.2.1).length=0 then 1 else 0):=by
  rw[third];refine eM (Ļ P (fun id=>ψ b id c.2.1 != 0) (fun _=>some 4) (some 4) (some (if P.any (fun id=>(lJ b id c.2.1).isSome) then 9 else if 1<(è c.2.2.1 c.2.2.2.1).length then 1 else if 1<(è c.2.2.2.1 c.2.2.1).length then 1 else if (è c.2.2.1 c.2.2.2.1).length+(è c.2.2.2.1 c.2.2.1).length=0 then 1 else 0)) (fun _=>rfl) (fun i a hi ha kn=>?_) (fun kn=>?_)) ?_
  ·try dsimp only
   unfold iP;rw[Ô hi,ĝ (hol hi),Ī ha,HG (b:=((b.1.1,b.1.2),b.2.1,b.2.2.1,b.2.2.2.1,b.2.2.2.2.1,b.2.2.2.2.2)) (by simp only; omega),À,Î hi (by omega)];have e:ψ ((b.1.1,b.1.2),b.2.1,b.2.2.1,b.2.2.2.1,b.2.2.2.2.1,b.2.2.2.2.2) a c.2.1=ψ b a c.2.1:=rfl;rw[e,Ĥ]
  ·try dsimp only
   unfold iP;rw[à]
  ·cases P.any (fun id=>ψ b id c.2.1 != 0)<;>rfl
 rw[second];refine eM (Ļ P (fun id=>ψ b id c.2.1==5) (fun _=>some 5) (some 5) (some (if P.any (fun id=>ψ b id c.2.1 != 0) then 4 else if P.any (fun id=>(lJ b id c.2.1).isSome) then 9 else if 1<(è c.2.2.1 c.2.2.2.1).length then 1 else if 1<(è c.2.2.2.1 c.2.2.1).length then 1 else if (è c.2.2.1 c.2.2.2.1).length+(è c.2.2.2.1 c.2.2.1).length=0 then 1 else 0)) (fun _=>rfl) (fun i a hi ha kn=>?_) (fun kn=>?_)) ?_
 ·try dsimp only
  unfold j3;rw[Ô hi,ĝ (hol hi),Ī ha,Nl (b:=((b.1.1,b.1.2),b.2.1,b.2.2.1,b.2.2.2.1,b.2.2.2.2.1,b.2.2.2.2.2)) (by simp only; omega),À,Î hi (by omega),acA]
  try dsimp only
  cases List.findIdx? (fun g:ê=>g.1==a) b.2.1 with
  |none=>rfl
  |some j =>
   have:ilt (j:Int) 0=false:=by simp[ilt]
   rw[Ð this]; rfl
 ·try dsimp only
  unfold j3;rw[à]
 ·cases P.any (fun id=>ψ b id c.2.1==5)<;>rfl
structure Pre (b:Þ):Prop where
 size:Γ b
 gauge:∀g∈b.2.1,pF g=true
 cmp:∀c∈b.2.2.2.2.1,HO c.2.1=true∧(è c.2.2.1 c.2.2.2.1).length≤1∧(è c.2.2.2.1 c.2.2.1).length≤1
 look:∀n∈b.2.2.2.2.2,HO n.2=true
def ZJ {c:Cmp} (h:LG c=true):HO c.2.1=true:=by
 have:=((Χ c).1 h).2.1;simp[HO,inP,this.1,this.2]
def ē.pre {b:Þ} (h:ē b):Pre b :=
 ⟨h.size,h.gauge,fun c hc=>⟨ZJ (h.nums hc),(h.lefts hc).1,(h.lefts hc).2.1⟩,fun n hn=>(by have:=(YM h (h.looks n hn)).1; simp[HO,inP,this.1,this.2])⟩
def VN {a b:List Int} (h:(è a b).length≤1) {id:Int} (h0:id≠0):LF a b=id↔id∈a∧id∉b:=by
 rw[←jQ];unfold LF
 cases hl:è a b with
 |nil =>
  simp only[List.head?_nil,gG,fA,iff_false];exact fun e=>h0 e.symm
 |cons x t =>
  have:t=[]:=by
   rw[hl] at h;simp only[cX] at h;exact dh.1 (by omega)
  subst this;simp only[List.head?_cons,fh,cY];exact eq_comm
def MI (b:Þ) (g:ê) (d:Int):Bool :=
 g.2.1==d||b.2.2.2.2.1.any (fun c=>c.2.1==d&&(LF c.2.2.1 c.2.2.2.1==g.1||LF c.2.2.2.1 c.2.2.1==g.1))||b.2.2.2.2.2.any (fun n=>n.1==g.1&&n.2==d)
def amK {b:Þ} (hs:Γ b) (g:ê) (d:Int):G9 b g d=some (MI b g d):=by
 have h1:=hs.compares;have h2:=hs.looks;unfold G9 Oo MI
 cases hm:(g.2.1==d) with
 |true =>
  have:ieq g.2.1 d=true:=hm;rw[Ó this];simp
 |false =>
  have:ieq g.2.1 d=false:=hm;rw[Ð this]
  have inner:Ò (fun(v14:Int) kk16=>mX d b.2.2.2.2.2 g.1 v14 (fun u15=>kk16 u15) (fun z12=>some z12) (fun _=>some false)) (0:Int)=some (b.2.2.2.2.2.any (fun n=>n.1==g.1&&n.2==d)):=by
   refine eM (Ļ b.2.2.2.2.2 (fun n=>n.1==g.1&&n.2==d) (fun _=>some true) (some true) (some false) (fun _=>rfl) (fun i a hi ha kn=>?_) (fun kn=>?_)) ?_
   ·try dsimp only
    unfold mX;rw[Ô hi,Ë ha,Ë ha,Î hi (by omega)]
    cases h1:(a.1==g.1) with
    |false=>have:ieq a.1 g.1=false:=h1; simp[this]
    |true =>
     have:ieq a.1 g.1=true:=h1;rw[this]
     cases h2:(a.2==d) with
     |false=>have:ieq a.2 d=false:=h2; simp[this]
     |true=>have:ieq a.2 d=true:=h2; simp[this]
   ·try dsimp only
    unfold mX;rw[à]
   ·cases b.2.2.2.2.2.any _<;>rfl
  rw[inner];refine eM (Ļ b.2.2.2.2.1 (fun c=>c.2.1==d&&(LF c.2.2.1 c.2.2.2.1==g.1||LF c.2.2.2.1 c.2.2.1==g.1)) (fun _=>some true) (some true) (some (b.2.2.2.2.2.any (fun n=>n.1==g.1&&n.2==d))) (fun _=>rfl) (fun i a hi ha kn=>?_) (fun kn=>?_)) ?_
  ·have hp:=hs.piles a (cR ha)
   try dsimp only
   unfold qt;rw[Ô hi,Ë ha,J0 (by omega) (by omega),J0 (by omega) (by omega),Î hi (by omega)];simp only[À]
   cases h1:(a.2.1==d) with
   |false=>have:ieq a.2.1 d=false:=h1; simp[this]
   |true =>
    have:ieq a.2.1 d=true:=h1;rw[this]
    cases h2:(LF a.2.2.1 a.2.2.2.1==g.1) with
    |true=>have:ieq (LF a.2.2.1 a.2.2.2.1) g.1=true:=h2; simp[this]
    |false =>
     have:ieq (LF a.2.2.1 a.2.2.2.1) g.1=false:=h2;rw[this]
     cases h3:(LF a.2.2.2.1 a.2.2.1==g.1) with
     |true=>have:ieq (LF a.2.2.2.1 a.2.2.1) g.1=true:=h3; simp[this]
     |false=>have:ieq (LF a.2.2.2.1 a.2.2.1) g.1=false:=h3; simp[this]
  ·try dsimp only
   unfold qt;rw[à]
  ·cases b.2.2.2.2.1.any _<;>rfl
def akq {b:Þ} (h:Pre b) {g:ê} (hg:g∈b.2.1) {d:Int}:MI b g d=true↔d∈ß b g:=by
 have hid:g.1≠0:=by
  have:=((tC g).1 (h.gauge g hg)).2.2.2.1;omega
 rw[jW];unfold MI;simp only[Bool.or_eq_true,List.any_eq_true,Bool.and_eq_true,beq_iff_eq,or_assoc];refine or_congr eq_comm (or_congr ?_ Iff.rfl);constructor
 ·rintro⟨c,hc,e,h1⟩;obtain⟨_,l1,l2⟩:=h.cmp c hc;refine⟨c,hc,?_,e⟩;rw[VN l1 hid,VN l2 hid] at h1;intro he;rw[dJ,ee,ee] at he;rcases h1 with⟨x,y⟩|⟨x,y⟩
  ·exact y (he.1 x)
  ·exact y (he.2 x)
 ·rintro⟨c,hc,h1,e⟩;obtain⟨_,l1,l2⟩:=h.cmp c hc;refine⟨c,hc,e,?_⟩;rw[VN l1 hid,VN l2 hid]
  by_cases ha:g.1∈c.2.2.1
  ·by_cases hb:g.1∈c.2.2.2.1
   ·exact absurd (by rw[dJ,ee,ee]; exact⟨fun _=>hb,fun _=>ha⟩) h1
   ·exact .inl ⟨ha,hb⟩
  ·by_cases hb:g.1∈c.2.2.2.1
   ·exact .inr ⟨hb,ha⟩
   ·exact absurd (by rw[dJ,ee,ee]; exact⟨fun x=>absurd x ha,fun x=>absurd x hb⟩) h1
def nx (v:Int) (D:List Int):Int:=D.foldl (fun m d=>if v<d then min m d else m) 20001
def aiC (v:Int) (D:List Int) (d:Int):nx v (D++[d])=if v<d then min (nx v D) d else nx v D:=by
 unfold nx;rw[List.foldl_append];rfl
def VO (v:Int):∀D:List Int,nx v D≤20001∧(∀d∈D,v<d→nx v D≤d)∧(nx v D=20001∨(nx v D∈D∧v<nx v D)):=by
 suffices H:∀(n:Nat) (D:List Int),D.length=n→nx v D≤20001∧(∀d∈D,v<d→nx v D≤d)∧(nx v D=20001∨(nx v D∈D∧v<nx v D)) from fun D=>H _ D rfl
 intro n
 induction n with
 |zero =>
  intro D hD;rw[dh.1 hD];exact⟨dF _,by simp,.inl rfl⟩
 |succ n ih =>
  intro D' hD'
  obtain⟨D,d,rfl⟩:∃D d,D'=D++[d]:=by
   rcases List.eq_nil_or_concat D' with rfl|⟨L,b,rfl⟩
   ·simp at hD'
   ·exact⟨L,b,by simp⟩
  obtain⟨h1,h2,h3⟩:=ih D (by simpa using hD');rw[aiC]
  by_cases hd:v<d
  ·rw[if_pos hd];refine⟨by omega,fun x hx hv=>?_,?_⟩
   ·rcases cQ.1 hx with hx|hx
    ·have:=h2 x hx hv; omega
    ·rw[cY] at hx; omega
   ·rcases Int.le_total (nx v D) d with h|h
    ·rw[Int.min_eq_left h];rcases h3 with h3|h3
     ·exact .inl h3
     ·exact .inr ⟨by simp[h3.1],h3.2⟩
    ·rw[Int.min_eq_right h];exact .inr ⟨by simp,hd⟩
  ·rw[if_neg hd];refine⟨h1,fun x hx hv=>?_,?_⟩
   ·rcases cQ.1 hx with hx|hx
    ·exact h2 x hx hv
    ·rw[cY] at hx; omega
   ·rcases h3 with h3|h3
    ·exact .inl h3
    ·exact .inr ⟨by simp[h3.1],h3.2⟩
def anE {D:List Int} (hD:D.length≤1000000) (v:Int) (K:Int→Option (List (Int×Int))) :
 Ò (fun(v18:Int×Int) kk21=>kZ v D v18.1 v18.2 (fun u19 u20=>kk21 (u19,u20)) K) ((20001:Int),(0:Int))=K (nx v D):=by
 refine ń (fun x:Int×Int=>∃k:Nat,k≤D.length∧x=(nx v (D.take k),(k:Int))) (fun x=>D.length-x.2.toNat) ?_ ⟨0,by omega,rfl⟩;rintro x ⟨k,hk,rfl⟩;rcases dv k D.length with hlt|hge
 ·refine .inr ⟨(nx v (D.take (k+1)),((k+1:Nat):Int)),⟨k+1,hlt,rfl⟩,by simp only[Int.toNat_natCast]; omega,fun kn=>?_⟩;have ha:D[k]?=some D[k]:=List.getElem?_eq_getElem hlt;unfold kZ;have ho:þ D=((D.length:Nat):Int):=rfl;rw[Ô hlt,ho,ic hlt,Ī ha,take_succ ha,aiC]
  by_cases h:v<D[k]
  ·rw[Ó (by simpa[igt] using h),ic hlt,Ī ha,Î hlt (by omega),if_pos h,vx];simp
  ·rw[Ð (by simpa[igt] using h),Î hlt (by omega),if_neg h];simp
 ·have:k=D.length:=by omega
  subst this;refine .inl fun kn=>?_;unfold kZ;rw[à,List.take_length]
def ahv (b:Þ) (g:ê) (D:List Int) (v:Int):List Int:=(Y3 D).filter fun d=>decide (v<d)&&MI b g d
def Rm {b:Þ} {g:ê} {D:List Int} (hD:∀d∈D,d≤20000) (v:Int):ahv b g D v=if nx v D<20001 then(if MI b g (nx v D) then nx v D::ahv b g D (nx v D) else ahv b g D (nx v D)) else[]:=by
 obtain⟨h1,h2,h3⟩:=VO v D;refine aeo ((Cv D).sublist List.filter_sublist) ?_ fun x=>?_
 ·split
  ·split
   ·rw[dE];refine⟨fun a ha=>?_,(Cv D).sublist List.filter_sublist⟩;have:=(eA.1 ha).2;simp at this;omega
   ·exact(Cv D).sublist List.filter_sublist
  ·exact List.Pairwise.nil
 ·have hm:∀v x,x∈ahv b g D v↔x∈D∧v<x∧MI b g x=true:=by
   intro v x;unfold ahv;rw[List.mem_filter,qf];simp
  rw[hm]
  split
  ·rename_i hlt
   have h4:nx v D∈D∧v<nx v D:=by
    rcases h3 with h3|h3
    ·omega
    ·exact h3
   split
   ·rename_i ha;rw[cW,hm];constructor
    ·rintro⟨a,c,e⟩;have:=h2 x a c;rcases Int.lt_or_eq_of_le this with h|h
     ·exact .inr ⟨a,h,e⟩
     ·exact .inl h.symm
    ·rintro(rfl|⟨a,c,e⟩)
     ·exact⟨h4.1,h4.2,ha⟩
     ·exact⟨a,by omega,e⟩
   ·rename_i ha;rw[hm];constructor
    ·rintro⟨a,c,e⟩;have:=h2 x a c;rcases Int.lt_or_eq_of_le this with h|h
     ·exact⟨a,h,e⟩
     ·rw[←h] at e; exact absurd e ha
    ·rintro⟨a,c,e⟩;exact⟨a,by omega,e⟩
  ·rename_i hge;constructor
   ·rintro⟨a,c,e⟩;have:=h2 x a c;have:=hD x a;omega
   ·intro h; cases h
def amC {b:Þ} {g:ê} {D:List Int} (v:Int):(ahv b g D v).length≤D.length :=
 du (dA _ _) (D0 D)
set_option maxHeartbeats 1000000 in
def ama {b:Þ} (hs:Γ b) {i:Nat} {g:ê} (hg:b.2.1[i]?=some g) {D:List Int} (hl:D.length≤1000000) (hD:∀d∈D,d≤20000) {out:List (Int×Int)} (ho:out.length+D.length≤1000000000) (K:List (Int×Int)→Option (List (Int×Int))) :
 Ò (fun(v24:Int×List (Int×Int)) kk27=>la (i:Int) b.1.1 b.1.2 b.2.1 b.2.2.1 b.2.2.2.1 b.2.2.2.2.1 b.2.2.2.2.2 D v24.1 v24.2 (fun u25 u26=>kk27 (u25,u26)) K) ((-1:Int),out)=K (out++(ahv b g D (-1)).map fun d=>((g.1,d):Int×Int)):=by
 refine ń (fun x:Int×List (Int×Int)=>x.2++(ahv b g D x.1).map (fun d=>((g.1,d):Int×Int))=out++(ahv b g D (-1)).map fun d=>((g.1,d):Int×Int)) (fun x=>(20001-x.1).toNat) ?_ rfl;rintro⟨v,o⟩ hI;simp only at hI
 by_cases hv:v<20001
 ·obtain⟨h1,h2,h3⟩:=VO v D
  have hlt:v<nx v D:=by
   rcases h3 with h3|h3
   ·omega
   ·exact h3.2
  refine .inr ⟨(nx v D,if nx v D<20001∧MI b g (nx v D)=true then o++[(g.1,nx v D)] else o),?_,by simp only; omega,fun kn=>?_⟩
  ·rw[←hI];simp only;rw[Rm hD v]
   by_cases ha:nx v D<20001
   ·rw[if_pos ha]
    cases hq:MI b g (nx v D) with
    |true=>rw[if_pos ⟨ha,rfl⟩,if_pos rfl]; simp
    |false=>rw[if_neg (by simp),if_neg (by simp)]
   ·rw[if_neg (by omega),if_neg ha]
    have:ahv b g D (nx v D)=[]:=by
     have e:=Rm (b:=b) (g:=g) hD (nx v D);rw[e,if_neg];obtain⟨g1,g2,g3⟩:=VO (nx v D) D;rcases g3 with g3|g3
     ·omega
     ·have:=hD _ g3.1; omega
    rw[this]
  ·unfold la;rw[Ó (by simpa[ilt] using hv)];refine Eq.trans (anE hl v _) ?_;dsimp only
   by_cases ha:nx v D<20001
   ·rw[Ó (by simpa[ilt] using ha),Ë hg,amK (b:=((b.1.1,b.1.2),b.2.1,b.2.2.1,b.2.2.2.1,b.2.2.2.2.1,b.2.2.2.2.2)) ⟨hs.gauges,hs.uses,hs.loans,hs.compares,hs.looks,hs.piles⟩,À];have e:MI ((b.1.1,b.1.2),b.2.1,b.2.2.1,b.2.2.2.1,b.2.2.2.2.1,b.2.2.2.2.2) g (nx v D)=MI b g (nx v D):=rfl;rw[e]
    cases hq:MI b g (nx v D) with
    |true =>
     have hol:o.length≤1000000000:=by
      have:=congrArg List.length hI;simp only[cN,dW] at this;have:=amC (b:=b) (g:=g) (D:=D) (-1);omega
     rw[Ó rfl,Ë hg,Ö (by simp only[dC]; omega),Am.iff_true,if_pos ⟨ha,rfl⟩]
    |false=>rw[Ð rfl,if_neg (by simp)]
   ·rw[Ð (by simpa[ilt] using ha),if_neg (by omega)]
 ·refine .inl fun kn=>?_;unfold la;rw[Ð (by simpa[ilt] using hv)]
  have:ahv b g D v=[]:=by
   rw[Rm hD,if_neg];obtain⟨g1,g2,g3⟩:=VO v D;rcases g3 with g3|g3
   ·omega
   ·have:=hD _ g3.1; omega
  rw[this] at hI;simp only[ff,dH] at hI;rw[hI]
def zA (b:Þ):List Int:=b.2.1.map (fun g=>g.2.1)++b.2.2.2.2.1.map (fun c=>c.2.1)++b.2.2.2.2.2.map fun n=>n.2
def aep {b:Þ} (hs:Γ b):(zA b).length≤3000:=by
 have h1:=hs.gauges; have h2:=hs.compares; have h3:=hs.looks;simp only[zA,cN,dW];omega
def Pre.days {b:Þ} (h:Pre b):∀d∈zA b,0≤d∧d≤20000:=by
 intro d hd;simp only[zA,cQ,dT] at hd;rcases hd with(⟨g,hg,rfl⟩|⟨c,hc,rfl⟩)|⟨n,hn,rfl⟩
 ·have:=((tC g).1 (h.gauge g hg)).2.2.2.2.1;omega
 ·have:=(h.cmp c hc).1;simp only[HO,inP,cM,decide_eq_true_eq] at this;exact this
 ·have:=h.look n hn;simp only[HO,inP,cM,decide_eq_true_eq] at this;exact this
def akr {b:Þ} (h:Pre b) {g:ê} (hg:g∈b.2.1):ahv b g (zA b) (-1)=ß b g:=by
 refine aeo ((Cv _).sublist List.filter_sublist) (vT b g) fun x=>?_;unfold ahv;rw[List.mem_filter,qf,Bool.and_eq_true,akq h hg,decide_eq_true_eq];constructor
 ·exact fun hx=>hx.2.2
 ·intro hx
  have hm:x∈zA b:=by
   simp only[zA,cQ,dT];rcases jW.1 hx with e|⟨c,hc,_,e⟩|⟨n,hn,_,e⟩
   ·exact .inl (.inl ⟨g,hg,e.symm⟩)
   ·exact .inl (.inr ⟨c,hc,e⟩)
   ·exact .inr ⟨n,hn,e⟩
  have:=h.days x hm;exact⟨hm,by omega,hx⟩
def VW {α:Type} (f:α→Int) (l:List α) (s:List Int) (i:Nat) {a:α} (ha:l[i]?=some a):s++(l.take (i+1)).map f=(s++(l.take i).map f)++[f a]:=by
 rw[take_succ ha,gL,di]; rfl
def HH {b:Þ} (h:Pre b):jA b=some (Ê b):=by
 have h1:=h.size.gauges; have h2:=h.size.compares; have h3:=h.size.looks;have hl:=aep h.size;unfold jA Iq;refine ð b.2.1 (fun i=>(b.2.1.take i).map (fun g=>g.2.1)) _ rfl (fun i a hi ha kn=>?_) (fun kn=>?_)
 ·try dsimp only
  unfold oj;have:=VW (fun g:ê=>g.2.1) b.2.1 [] i ha;simp only[List.nil_append] at this;rw[Ô hi,Ë ha,Ö (by simp only[List.length_map,List.length_take,List.length_singleton]; omega),Am.iff_true,Î hi (by omega),this]
 ·try dsimp only
  unfold oj;rw[à,List.take_length];dsimp only;refine ð b.2.2.2.2.1 (fun i=>b.2.1.map (fun g=>g.2.1)++(b.2.2.2.2.1.take i).map (fun c=>c.2.1)) _ (by simp) (fun i a hi ha kn=>?_) (fun kn=>?_)
  ·try dsimp only
   unfold oi;rw[Ô hi,Ë ha,Ö (by simp only[List.length_append,List.length_map,List.length_take,List.length_singleton]; omega),Am.iff_true,Î hi (by omega),VW (fun c:Cmp=>c.2.1) b.2.2.2.2.1 _ i ha]
  ·try dsimp only
   unfold oi;rw[à,List.take_length];dsimp only;refine ð b.2.2.2.2.2 (fun i=>b.2.1.map (fun g=>g.2.1)++b.2.2.2.2.1.map (fun c=>c.2.1)++(b.2.2.2.2.2.take i).map (fun n=>n.2)) _ (by simp) (fun i a hi ha kn=>?_) (fun kn=>?_)
   ·try dsimp only
    unfold oh;rw[Ô hi,Ë ha,Ö (by simp only[List.length_append,List.length_map,List.length_take,List.length_singleton]; omega),Am.iff_true,Î hi (by omega),VW (fun n:Int×Int=>n.2) b.2.2.2.2.2 _ i ha]
   ·try dsimp only
    unfold oh;rw[à,List.take_length];dsimp only;rw[show b.2.1.map (fun g=>g.2.1)++b.2.2.2.2.1.map (fun c=>c.2.1)++b.2.2.2.2.2.map (fun n=>n.2)=zA b from rfl];refine ð b.2.1 (fun i=>(b.2.1.take i).flatMap fun g=>(ß b g).map fun d=>((g.1,d):Int×Int)) _ rfl (fun i g hi hg kn=>?_) (fun kn=>?_)
    ·try dsimp only
     unfold og;rw[Ô hi]
     have hlen:((b.2.1.take i).flatMap fun g=>(ß b g).map fun d=>((g.1,d):Int×Int)).length≤2001000:=by
      have:=vD (fun g:ê=>(ß b g).map fun d=>((g.1,d):Int×Int)) 2001 (fun g=>by rw[dW]; exact Hu h.size g) (b.2.1.take i);rw[cZ] at this;have:min i b.2.1.length*2001≤1000*2001:=dw _ (by omega);omega
     refine eM (ama h.size hg (by omega) (fun d hd=>(h.days d hd).2) (by omega) _) ?_;rw[Î hi (by omega),akr h (cR hg),take_succ hg,eJ];simp
    ·try dsimp only
     unfold og;rw[à,List.take_length];rfl
def Vj {n d:Int} (hd:0<d) (hn:n.natAbs≤2147483647) (hd2:d≤2147483647):pK n d=some (nz n d,0):=by
 obtain⟨g,h0,hg,h1,h2⟩:=zI (n:=n) hd;have hr:=(jY _).1 (Vv hd hn hd2)
 have z:Ŋ d 0=false:=by simp[Ŋ]; omega
 have zg:Ŋ (g:Int) 0=false:=by simp[Ŋ]; omega
 unfold pK C4
 by_cases hn0:n=0
 ·subst hn0
  have e:nz 0 d=(0,1):=by
   unfold nz
   have:(Nat.gcd (0:Int).natAbs d.natAbs:Int)=d:=by simp; omega
   rw[this,Int.ediv_self (by omega)];simp
  rw[Ð (by rfl),Ð z,Õ (by simp) (by simp),Ð z,Int.tdiv_self (by omega),Õ (by omega) (by omega),Int.zero_tdiv,e];rfl
 ·rw[Ó (by simpa[ine] using hn0),Ð z];have a0:(Int.tmod n d).natAbs=n.natAbs % d.natAbs:=gN n d;have hlt:=gB n.natAbs (show 0<d.natAbs by omega);rw[akH ⟨by omega,by omega⟩,À]
  have ed:d=((d.natAbs:Nat):Int):=by omega
  have eg:Ai ((Int.tmod n d).natAbs:Int) d=some (g:Int):=by
   have:=akF (Int.tmod n d).natAbs d.natAbs;rw[←ed] at this;rw[this,a0,hg];congr 2;rw[gM n.natAbs,Nat.gcd_rec d.natAbs n.natAbs]
  rw[eg,À,Ð zg]
  have q1:Int.tdiv n (g:Int)=(nz n d).1:=by
   conv=>lhs; rw[h1]
   exact gn _ (by omega)
  have q2:Int.tdiv d (g:Int)=(nz n d).2:=by
   conv=>lhs; rw[h2]
   exact gn _ (by omega)
  rw[q1,q2,Õ (by omega) (by omega),Ð zg,Õ (by omega) (by omega),Ð (by simp[igt]; omega),Ð (by simp[ilt]; omega),Ð (by simp[igt]; omega)]
def aoj {x y:Int×Int} (hx:pZ x 1000 100) (hy:pZ y 1000 100):Nc x y=some (subP x y,0):=by
 obtain⟨b1,b2,b3⟩:=HS hx hy;have h1:=mD hx.num (show -100≤y.2∧y.2≤100 from⟨by have:=hy.pos; omega,hy.den⟩);have h2:=mD hy.num (show -100≤x.2∧x.2≤100 from⟨by have:=hx.pos; omega,hx.den⟩);have h3:=hy.num;unfold Nc WB X4 WD X5 WK;rw[Õ (by omega) (by omega),À];dsimp only
 have e:(0-y.1)*x.2 = -(y.1*x.2):=by rw[Int.zero_sub,Int.neg_mul]
 rw[Õ (by omega) (by omega),e,Õ (by omega) (by omega),Õ (by omega) (by omega),Õ (by omega) (by omega)]
 have e2:x.1*y.2 + -(y.1*x.2)=x.1*y.2-y.1*x.2:=by omega
 rw[e2,Vj b2 (by omega) (by omega),À,À];rfl
def akD {k:Int×Int} (hk:pZ k 200000 10000) {n:Int} (hn : -10000≤n∧n≤10000):vJ (n,1) k=some (Et k n,0):=by
 have b:=Ic hk hn;have p:=hk.pos;have q:=hk.den;unfold vJ WE;have e:n*k.1=k.1*n:=Int.mul_comm _ _;dsimp only;rw[e,Int.one_mul,Õ (by omega) (by omega),Õ (by omega) (by omega),Vj (by omega) (by omega) (by omega),À];rfl
def akC {k:Int×Int} (hk:pZ k 200000 10000) {heat:Int×Int} (hh:jK heat (-10000) 10000=true):Ah ((heat.1,1),(heat.2,1)) k=some (VL k heat,0):=by
 simp only[jK,Bool.and_eq_true,decide_eq_true_eq] at hh;have hp:=hk.pos;rw[agv (by omega) hh.2.1];unfold Ah IA Hb O7;dsimp only;rw[akD hk ⟨by omega,by omega⟩,akD hk ⟨by omega,by omega⟩]
 by_cases hn:k.1<0
 ·rw[Ó (by simpa[ilt] using hn),if_pos hn];rfl
 ·rw[Ð (by simpa[ilt] using hn),if_neg hn];rfl
def akz {r:Int×Int} (h:J8 r=true):Aj r=some (r.1 / r.2):=by
 have:=(jY r).1 h;have e:=X1 (n:=r.1) (d:=r.2) (by omega) (by omega);unfold tP Gf at e;unfold Aj IC QN O5;rw[e];rfl
def amJ {r:Int×Int} (h:J8 r=true):Hc r=some (JQ r):=by
 have hr:=(jY r).1 h;unfold Hc O9 adT ac6
 have z:Ŋ r.2 0=false:=by simp[Ŋ]; omega
 have t:=Int.mul_tdiv_add_tmod r.1 r.2
 have b1 : -4000000000≤Int.tdiv r.1 r.2∧Int.tdiv r.1 r.2≤4000000000:=by
  have:=Int.natAbs_tdiv_le_natAbs r.1 r.2;omega
 have h5 : -r.2<Int.tmod r.1 r.2∧Int.tmod r.1 r.2<r.2:=by
  have h6:=gN r.1 r.2;have h7:=gB r.1.natAbs (show 0<r.2.natAbs by omega);omega
 rw[Ð z,Õ (by omega) (by omega),Ð z,Ĥ];unfold JQ
 by_cases hp:0<Int.tmod r.1 r.2
 ·rw[if_pos (by simpa[igt] using hp),Õ (by omega) (by omega),À];congr 1
  have : -r.1 / r.2 = -(Int.tdiv r.1 r.2)-1:=by
   refine(fW (by omega)).2 ⟨?_,?_⟩
   ·rw[Int.sub_mul,Int.neg_mul,fD (Int.tdiv r.1 r.2)]; omega
   ·rw[Int.sub_mul,Int.neg_mul,fD (Int.tdiv r.1 r.2)]; omega
  omega
 ·rw[if_neg (by simpa[igt] using hp),À];congr 1
  have : -r.1 / r.2 = -(Int.tdiv r.1 r.2):=by
   refine(fW (by omega)).2 ⟨?_,?_⟩
   ·rw[Int.neg_mul,fD (Int.tdiv r.1 r.2)]; omega
   ·rw[Int.neg_mul,fD (Int.tdiv r.1 r.2)]; omega
  omega
structure aot (b:Þ) (c:Cmp):Prop where
 ok:aev b c
 ids:b.2.1.Pairwise fun a b=>a.1<b.1
 pile:∀x∈c.2.2.1++c.2.2.2.1,∃g,Ů b x=some g
def ē.cmpIn {b:Þ} (h:ē b) {c:Cmp} (hc:c∈b.2.2.2.2.1):aot b c:=⟨h.cmp hc,h.ids,fun x hx=>by obtain⟨⟨g,hg,_⟩,_⟩:=h.pile hc hx; exact⟨g,hg⟩⟩
def aev.ne {b:Þ} {c:Cmp} (h:aev b c):∀x∈c.2.2.1++c.2.2.2.1,x≠0:=by
 intro x hx;have hn:=(Χ c).1 h.nums;have h1:=((D7 _).1 hn.2.2.2.2.2.1).1;have h2:=((D7 _).1 hn.2.2.2.2.2.2).1;rcases cQ.1 hx with hx|hx
 ·have:=h1 x hx; omega
 ·have:=h2 x hx; omega
def acd {b:Þ} (hs:Γ b) (hi:b.2.1.Pairwise fun a b=>a.1<b.1) {p q:List Int} (hx:∀x∈p,x≠0∧∃g,Ů b x=some g):tE b (LF p q)=some (D4 (iw b) (è p q)):=by
 have h1:=hs.gauges;unfold tE Il
 cases hl:è p q with
 |nil =>
  have:LF p q=0:=by unfold LF; rw[hl]; rfl
  rw[this];rfl
 |cons x t =>
  have e:LF p q=x:=by unfold LF; rw[hl]; rfl
  have hm:x∈p:=(jQ.1 (show x∈è p q by rw[hl]; simp)).1;obtain⟨h0,g,hg⟩:=hx x hm;rw[e,Ð (by simpa[ieq] using h0),Nl (by omega),À];rcases Aa (b:=b) (id:=x) with⟨j,g',h2,h3,h4⟩|⟨h2,h3⟩
  ·rw[h2]
   try dsimp only
   rw[Ë h3];unfold D4;dsimp only;rw[zM hi,h4]
  ·rw[h3] at hg; cases hg
def ahB {b:Þ} (hs:Γ b) {c:Cmp} (h:aot b c):vG b c=some (Ņ b c):=by
 have hn:=(Χ c).1 h.ok.nums;have ha:=ķ hn.2.2.2.2.2.1;have hb:=ķ hn.2.2.2.2.2.2;have hA:∀x∈c.2.2.1,x≠0∧∃g,Ů b x=some g:=fun x hx=>⟨h.ok.ne x (by simp[hx]),h.pile x (by simp[hx])⟩;have hB:∀x∈c.2.2.2.1,x≠0∧∃g,Ů b x=some g:=fun x hx=>⟨h.ok.ne x (by simp[hx]),h.pile x (by simp[hx])⟩;unfold vG C1;rw[J0 (by omega) (by omega),À,acd hs h.ids hA,À,J0 (by omega) (by omega),À,acd hs h.ids hB,À,aoj h.ok.r1 h.ok.r2,À]
 try dsimp only
 rw[akC (heat:=c.2.2.2.2.2.2) (Ns h.ok.r1 h.ok.r2) hn.2.2.2.2.1,À];rfl
def akG {b:Þ} {c:Cmp} (hA:c.2.2.1.length≤1000) (hB:c.2.2.2.1.length≤1000) (h1:0≤b.1.1) (h2:b.1.1≤1000000) (h3:0≤b.1.2) (h4:b.1.2≤1000000):Af b c=some (jD b c):=by
 unfold Af Iv jD
 have e:∀n:Nat,Lj 0 ((n:Int)-1)=((n-1:Nat):Int):=by
  intro n;unfold Lj
  split<;>omega
 have bd:∀(n:Nat) (x:Int),n≤1000→0≤x→x≤1000000→0≤((n-1:Nat):Int)*x∧((n-1:Nat):Int)*x≤1000000000:=by
  intro n x hn h0 hx;refine⟨fM (by omega) h0,?_⟩;have:=fm (show((n-1:Nat):Int)≤1000 by omega) hx h0 (by omega);omega
 have b1:=bd _ _ hA h1 h2;have b2:=bd _ _ hA h3 h4;have b3:=bd _ _ hB h1 h2;have b4:=bd _ _ hB h3 h4;simp only[á];rw[Õ (by omega) (by omega),Õ (by omega) (by omega)];simp only[e];rw[Õ (by omega) (by omega),Õ (by omega) (by omega),Õ (by omega) (by omega),Õ (by omega) (by omega),Õ (by omega) (by omega),Õ (by omega) (by omega)]
def amM {b:Þ} (hs:Γ b) (hf:0≤b.1.1∧b.1.1≤b.1.2∧b.1.2≤1000000) {c:Cmp} (h:aot b c):tF b c=some (Φ b c):=by
 have hn:=(Χ c).1 h.ok.nums;have ha:=ķ hn.2.2.2.2.2.1;have hb:=ķ hn.2.2.2.2.2.2;obtain⟨q1,q2,b1,b2,b3⟩:=xa hf h.ok;have c1:=Au q1;have c2:=vB q2;have fb:=vE (b:=b) (c:=c) (by omega) (by omega) (by omega) (by omega) (by omega) (by omega);have hd:=hn.2.2.1;unfold tF Ow Φ;rw[ahB hs h,À,akG (by omega) (by omega) (by omega) (by omega) (by omega) (by omega),À,akz q2.rat,amJ q1.rat];simp only[À];rw[Õ (by omega) (by omega),Õ (by omega) (by omega),Õ (by omega) (by omega),Õ (by omega) (by omega),Õ (by omega) (by omega),Õ (by omega) (by omega)]
section
variable {b:Þ}
def amN (h:ē b) {id:Int} {g:ê} (hg:Ů b id=some g) {f t:Int} (hf:0≤f∧f≤100000) (ht:t≤100000):tG b id f t=some (iQ b g f t):=by
 have hG:=h.nG;have hU:=h.nU;have hL:=h.nL;obtain⟨hgm,hid⟩:=nk hg;unfold tG OD;rw[Nl (by omega),À];rcases Aa (b:=b) (id:=id) with⟨j,g',h2,h3,h4⟩|⟨h2,h3⟩
 ·rw[h2]
  have:g'=g:=by rw[hg] at h4; exact(Option.some.inj h4).symm
  subst this
  try dsimp only
  rw[Ë h3];refine ń (fun x:Int×Int=>f≤x.2∧(x.2≤t∨x.2=f)∧x.1=iQ b g' f x.2) (fun x=>(t-x.2).toNat) ?_ ⟨dF _,.inr rfl,(yV g' (dF _)).symm⟩;rintro⟨s,d⟩ ⟨hfd,hdt,hs⟩;simp only at hfd hdt hs;subst hs
  by_cases hd:d<t
  ·refine .inr ⟨(iQ b g' f (d+1),d+1),⟨by simp only; omega,.inl (by simp only; omega),rfl⟩,by simp only; omega,fun kn=>?_⟩;have e:=Qr h g' hfd;have lb:=kp h hgm (f:=f) (t:=d) hf.1;have lb2:=kp h hgm (f:=f) (t:=d+1) hf.1;unfold qw;rw[Ó (by simpa[ilt] using hd),af6 (b:=((b.1.1,b.1.2),b.2.1,b.2.2.1,b.2.2.2.1,b.2.2.2.2.1,b.2.2.2.2.2)) (by simp only; omega),À];have e1:lJ ((b.1.1,b.1.2),b.2.1,b.2.2.1,b.2.2.2.1,b.2.2.2.2.1,b.2.2.2.2.2) id d=lJ b id d:=rfl;rw[e1];unfold ad0 at e;rw[hid] at e
   cases ha:lJ b id d with
   |some l =>
    rw[ha] at e;simp only at e;rw[Ó rfl]
    try dsimp only
    rw[←e,Õ (by omega) (by omega),Õ (by omega) (by omega)]
   |none =>
    rw[ha] at e;simp only at e;rw[Ð rfl,amL (b:=((b.1.1,b.1.2),b.2.1,b.2.2.1,b.2.2.2.1,b.2.2.2.2.1,b.2.2.2.2.2)) (by simp only; omega),À];have e2:Ly ((b.1.1,b.1.2),b.2.1,b.2.2.1,b.2.2.2.1,b.2.2.2.2.1,b.2.2.2.2.2) id d=Ly b id d:=rfl;rw[e2]
    cases hu:Ly b id d with
    |true =>
     rw[hu,if_pos rfl] at e;rw[Ó rfl]
     try dsimp only
     rw[←e,Õ (by omega) (by omega),Õ (by omega) (by omega)]
    |false =>
     rw[hu,if_neg (by simp)] at e;rw[Ð rfl,Õ (by omega) (by omega),e,f6]
  ·refine .inl fun kn=>?_;unfold qw;rw[Ð (by simpa[ilt] using hd)]
   have:iQ b g' f d=iQ b g' f t:=by
    rcases gx t f with hlt|hge
    ·have:d=f:=by omega
     rw[this,yV g' (dF _),yV g' (by omega)]
    ·have:d=t:=by omega
     rw[this]
   rw[this]
 ·rw[h3] at hg; cases hg
end
def HI {b:Þ} (h:Pre b) (n:Int×Int):œ b n=some (jH b n.1 n.2):=by
 have hl:=Ib h.size;unfold œ Ir;rw[HH h,À];refine Eq.trans (δ (Ê b) (fun m=>decide (n.1=m.1)&&decide (n.2=m.2)) (fun z=>some (z+1)) (some 0) (fun i a hi ha kn=>?_) (fun kn=>?_)) ?_
 ·try dsimp only
  unfold ol;rw[Ô hi,Ë ha,Î hi (by omega),Î hi (by omega),Ĥ,Bool.and_true]
  have e:(Ŋ a.1 n.1&&Ŋ a.2 n.2)=(decide (n.1=a.1)&&decide (n.2=a.2)):=by
   rw[dJ];simp only[Ŋ,cM,decide_eq_true_eq];exact and_congr eq_comm eq_comm
  rw[e]
 ·try dsimp only
  unfold ol;rw[à]
 ·unfold jH ix
  cases List.findIdx? (fun m=>decide (n.1=m.1)&&decide (n.2=m.2)) (Ê b)<;>rfl
def ajj {b:Þ} (h:Pre b) (p q:List Int) (d:Int):jH b (LF p q) d=atP (Ê b) (è p q) d:=by
 unfold jH atP LF
 cases hl:è p q with
 |nil =>
  simp only[List.head?_nil,gG]
  have:ix (Ê b) 0 d=none:=by
   unfold ix;rw[List.findIdx?_eq_none_iff];intro n hn;obtain⟨g,hg,hn⟩:=List.mem_flatMap.1 hn;obtain⟨e,_,rfl⟩:=List.mem_map.1 hn;have:=((tC g).1 (h.gauge g hg)).2.2.2.1
   have:¬((0:Int)=g.1):=by omega
   simp[this]
  rw[this]
 |cons x t=>rfl
section
variable {b:Þ}
def alx {k:Nat} (hk:k<(Ê b).length):∃(i:Nat) (g:ê) (j:Nat) (d:Int),b.2.1[i]?=some g∧(ß b g)[j]?=some d∧k=off b i+j∧(Ê b)[k]?=some (g.1,d):=by
 obtain⟨i,g,j,h1,h2,h3⟩:=afe (b:=b) b.2.1.length (cJ _) k (by rw[aiA]; exact hk);have hd:(ß b g)[j]?=some (ß b g)[j]:=cI h2;exact⟨i,g,j,_,h1,hd,h3,by rw[h3]; exact MT h1 hd⟩
def agp (h:ē b) {i j:Nat} {g g':ê} (hi:b.2.1[i]?=some g) (hj:b.2.1[j]?=some g') (he:g.1=g'.1):i=j∧g=g':=by
 obtain⟨h1,rfl⟩:=cO.1 hi;obtain⟨h2,rfl⟩:=cO.1 hj;have hp:=dG.1 h.ids;rcases Nat.lt_trichotomy i j with hlt|rfl|hlt
 ·have:=hp i j h1 h2 hlt; omega
 ·exact⟨rfl,rfl⟩
 ·have:=hp j i h2 h1 hlt; omega
def pG (b:Þ) (i:Nat) (g:ê) (k:Nat):List Lk :=
 if k≤off b i then[] else[(0,(off b i:Int)+1,g.2.2.1+g.2.2.2.1.2),((off b i:Int)+1,0,-(g.2.2.1+g.2.2.2.1.1))] ++
  (List.range (min (k-off b i-1) ((ß b g).length-1))).flatMap fun(k:Nat)=>[((off b i:Int)+1+k,(off b i:Int)+1+k+1,0),((off b i:Int)+1+k+1,(off b i:Int)+1+k,iQ b g ((ß b g)[k]?.getD 0) ((ß b g)[k+1]?.getD 0))]
def iF (b:Þ) (i:Nat) (g:ê) (k:Nat):List (Int×Int) :=
 if k≤off b i then[] else[(1,(i:Int)),(1,(i:Int))]++(List.range (min (k-off b i-1) ((ß b g).length-1))).flatMap fun _=>[(2,(i:Int)),(2,(i:Int))]
def agV (h:ē b) {i:Nat} {g:ê} (hg:b.2.1[i]?=some g):pG b i g (Ê b).length=ô b g∧iF b i g (Ê b).length=ò b i g:=by
 have ho:=aiz h hg;have hp:=fU (j7 (b:=b) g)
 have e:min ((Ê b).length-off b i-1) ((ß b g).length-1)=(ß b g).length-1:=by omega
 unfold pG iF ô ò;rw[if_neg (by omega),if_neg (by omega),e,afW h hg];exact⟨rfl,rfl⟩
def abr {i:Nat} {g:ê} {k:Nat} (hk:k<off b i∨off b i+(ß b g).length≤k) (hp:0<(ß b g).length):pG b i g (k+1)=pG b i g k∧iF b i g (k+1)=iF b i g k:=by
 unfold pG iF;rcases hk with hk|hk
 ·rw[if_pos (by omega),if_pos (by omega),if_pos (by omega),if_pos (by omega)];exact⟨rfl,rfl⟩
 ·have e:min (k+1-off b i-1) ((ß b g).length-1)=min (k-off b i-1) ((ß b g).length-1):=by omega
  rw[if_neg (by omega),if_neg (by omega),if_neg (by omega),if_neg (by omega),e];exact⟨rfl,rfl⟩
def abt {i:Nat} {g:ê}:pG b i g (off b i+1)=pG b i g (off b i)++[(0,(off b i:Int)+1,g.2.2.1+g.2.2.2.1.2),((off b i:Int)+1,0,-(g.2.2.1+g.2.2.2.1.1))]∧iF b i g (off b i+1)=iF b i g (off b i)++[(1,(i:Int)),(1,(i:Int))]:=by
 unfold pG iF;rw[if_neg (by omega),if_pos (Nat.le_refl _),if_neg (by omega),if_pos (Nat.le_refl _),show off b i+1-off b i-1=0 by omega,Nat.zero_min];exact⟨by simp,by simp⟩
def adR {i:Nat} {g:ê} {j:Nat} (hj:j+1<(ß b g).length):pG b i g (off b i+(j+1)+1)=pG b i g (off b i+(j+1))++[((off b i:Int)+1+j,(off b i:Int)+1+j+1,0),((off b i:Int)+1+j+1,(off b i:Int)+1+j,iQ b g ((ß b g)[j]?.getD 0) ((ß b g)[j+1]?.getD 0))] ∧
 iF b i g (off b i+(j+1)+1)=iF b i g (off b i+(j+1))++[(2,(i:Int)),(2,(i:Int))]:=by
 unfold pG iF;rw[if_neg (by omega),if_neg (by omega),if_neg (by omega),if_neg (by omega),show min (off b i+(j+1)+1-off b i-1) ((ß b g).length-1)=j+1 by omega,show min (off b i+(j+1)-off b i-1) ((ß b g).length-1)=j by omega,sj,sj];exact⟨by simp,by simp⟩
def agU (i:Nat) (g:ê) (k:Nat) (hd:(ß b g).length≤59):(pG b i g k).length≤120∧(iF b i g k).length≤120:=by
 unfold pG iF;constructor
 ·split
  ·simp
  ·rw[cN,ŷ _ _ (fun _=>rfl)];simp only[cX,dk]; omega
 ·split
  ·simp
  ·rw[cN,ŷ _ _ (fun _=>rfl)];simp only[cX,dk]; omega
set_option maxHeartbeats 1000000 in
def ah0 (h:ē b) {i:Nat} {g:ê} (hg:b.2.1[i]?=some g) {L:List Lk} {S:List (Int×Int)} (hL:L.length≤100000) (hS:S.length≤100000) (K:List Lk×List (Int×Int)→Option (List Lk×List (Int×Int))) :
 Ò (fun(v21:Int×List Lk×List (Int×Int)) kk25=>pj (Ê b) (i:Int) b.1.1 b.1.2 b.2.1 b.2.2.1 b.2.2.2.1 b.2.2.2.2.1 b.2.2.2.2.2 g.1 g.2.1 g.2.2.1 g.2.2.2.1.1 g.2.2.2.1.2 v21.1 v21.2.1 v21.2.2 (fun u22 u23 u24=>kk25 (u22,u23,u24)) K) ((0:Int),L,S)=K (L++ô b g,S++ò b i g):=by
 have hN:=h.nodes;have hgm:=cR hg;have hdl:=Ht h hgm;have hp:=fU (j7 (b:=b) g);have hr:=h.gaugeR hgm;have r1:=hr.2.2.2.2.2.1;have r2:=hr.2.2.2.2.2.2.1;obtain⟨tl,htl⟩:=QX h hgm;refine ð (Ê b) (fun k=>(L++pG b i g k,S++iF b i g k)) _ (by simp[pG,iF]) (fun k n hk hn kn=>?_) (fun kn=>?_)
 ·try dsimp only
  unfold pj;have gl:=agU (b:=b) i g k hdl;rw[Ô hk,Ë hn];obtain⟨i',g',j,d,h1,h2,h3,h4⟩:=alx hk
  have hnd:n=(g'.1,d):=by rw[hn] at h4; exact Option.some.inj h4
  by_cases hsame:n.1=g.1
  ·obtain⟨hi',hgg⟩:=agp h h1 hg (by rw[hnd] at hsame; exact hsame);subst hgg;have hin:i'=i:=hi';rw[hin] at h3 h1;rw[Ð (by simp[ine,hsame]),Ë hn]
   have hdn:n.2=d:=by rw[hnd]
   rw[hdn]
   cases j with
   |zero =>
    have hdd:d=g'.2.1:=by rw[htl] at h2; simpa using h2.symm
    have hk0:k=off b i:=by omega
    rw[Ó (by simp[ieq,hdd])];obtain⟨e1,e2⟩:=abt (b:=b) (i:=i) (g:=g');rw[←hk0] at e1 e2;rw[Î hk (by omega),Õ (by omega) (by omega),Î hk (by omega),Õ (by omega) (by omega),Õ (by omega) (by omega),Ö (by simp only[cN,cX,dk]; omega),Am.iff_true,Ö (by simp only[cN,cX,dk]; omega),Am.iff_true,Î hk (by omega),e1,e2]
    have e3:0-g'.2.2.1-g'.2.2.2.1.1 = -(g'.2.2.1+g'.2.2.2.1.1):=by omega
    rw[e3];simp only[di]
   |succ j =>
    have hjl:=(cO.1 h2).1
    have hdd:d≠g'.2.1:=by
     have hp1:=vT b g';rw[htl] at h2 hp1;rw[List.getElem?_cons_succ] at h2;have:=(dE.1 hp1).1 d (cR h2);omega
    rw[Ð (by simpa[ieq] using hdd)]
    have hprev:(ß b g')[j]?=some ((ß b g')[j]?.getD 0):=by rw[cI (by omega)]; rfl
    have hd':d=(ß b g')[j+1]?.getD 0:=by rw[h2]; rfl
    have hpn:=MT h1 hprev;have d1:=h.day hgm (cR hprev);have d2:=h.day hgm (cR h2);have hk0:k=off b i+(j+1):=h3;obtain⟨e1,e2⟩:=adR (b:=b) (i:=i) (g:=g') hjl;rw[←hk0] at e1 e2
    have hkm:((k:Int)-1)=((off b i+j:Nat):Int):=by omega
    have lb:=kp h hgm (t:=d) d1.2.1;rw[Q1 (by omega) (by omega),hkm,Ë hpn,Ë hn,hdn]
    try dsimp only
    rw[show tG ((b.1.1,b.1.2),b.2.1,b.2.2.1,b.2.2.2.1,b.2.2.2.2.1,b.2.2.2.2.2) g'.1 ((ß b g')[j]?.getD 0) d=tG b g'.1 ((ß b g')[j]?.getD 0) d from rfl,amN h (vz h.ids hgm) ⟨by omega,by omega⟩ (by omega),À,Î hk (by omega),Î hk (by omega),Ö (by simp only[cN,cX,dk]; omega),Am.iff_true,Ö (by simp only[cN,cX,dk]; omega),Am.iff_true,Î hk (by omega),e1,e2,←hd']
    have e3:(off b i:Int)+1+(j:Int)=(k:Int):=by omega
    rw[e3];simp only[di]
  ·rw[Ó (by simp[ine,hsame]),Î hk (by omega)]
   have hout:k<off b i∨off b i+(ß b g).length≤k:=by
    rcases dv k (off b i) with hlt|hge
    ·exact .inl hlt
    ·rcases dv k (off b i+(ß b g).length) with hlt2|hge2
     ·have:=MT hg (k:=k-off b i) (cI (by omega));rw[show off b i+(k-off b i)=k by omega,hn] at this;exact absurd (by rw[Option.some.inj this]) hsame
     ·exact .inr hge2
   obtain⟨e1,e2⟩:=abr hout hp;rw[e1,e2]
 ·try dsimp only
  unfold pj;rw[à];obtain⟨e1,e2⟩:=agV h hg;rw[e1,e2]
end
end Go.Proofs.ZzM
end
