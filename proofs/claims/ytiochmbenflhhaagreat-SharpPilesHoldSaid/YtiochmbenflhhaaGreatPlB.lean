/- lemmas -/
import Derived.Test.YtiochmbenflhhaaGreatPlA
import Derived.Test.YtiochmbenflhhaaGreatMdTA
set_option linter.all false
set_option linter.unusedSectionVars false
set_option linter.unusedVariables false
set_option linter.unusedSimpArgs false
noncomputable section
namespace Go.Proofs.ZzM
open Go Go.Am
section
variable {L:List Lk} {N:Nat}
def Wl.app {u v:Int} {vs:List Int} {d:Int} (h1:Wl L (fun x=>x=u) vs v d) {ws:List Int} {w e:Int} (h2:Wl L (fun x=>x=v) ws w e):∃xs,Wl L (fun x=>x=u) xs w (d+e):=by
 induction h2 with
 |nil h=>subst h; exact⟨vs,by rw[gg]; exact h1⟩
 |step hw hx ih =>
  obtain⟨xs,hi⟩:=ih;have:=Wl.step hi hx;rw[Int.add_assoc] at this;exact⟨_,this⟩
def dst (L:List Lk) (N:Nat) (s t:Int):Int:=gv (rz L N s) t
def acP (h:gW L N) (ht:Jt L N) (ho:Ő L N=true) {s t:Int} (hs:0≤s∧s<N) (hv:0≤t∧t<N):dst L N s t≤9007199254740992:=by
 have h2:=h.n60;obtain⟨p,hp⟩:=(Μ h.links (by omega)).1 ho;obtain⟨vs,d,hw,hd⟩:=ht.from' s hs.1 hs.2;obtain⟨ws,e,hx,he⟩:=ht.to t hv.1 hv.2;obtain⟨xs,hy⟩:=Wl.app hw hx;have:=(i6 h.links (by omega) hp hs).low t xs _ (T2.2 hy);unfold dst;omega
def Ze (h:gW L N) (ht:Jt L N) (ho:Ő L N=true) {s t:Int} (hs:0≤s∧s<N) (hv:0≤t∧t<N):dst L N s t≠ψ:=by
 have:=acP h ht ho hs hv;unfold ψ;omega
def acN (h:gW L N) (ht:Jt L N) (ho:Ő L N=true) {s:Int} (hs:0≤s∧s<N):Pot L (dst L N s):=by
 have h2:=h.n60;obtain⟨p,hp⟩:=(Μ h.links (by omega)).1 ho;intro u v m hl;have hr:=h.inr _ hl;exact(i6 h.links (by omega) hp hs).pot h.inr hl (Ze h ht ho hs hr.1)
def Zd (h:gW L N) (ho:Ő L N=true) {s:Int} (hs:0≤s∧s<N):dst L N s s=0:=X6 h ho hs.1 hs.2
def ph (h:gW L N) (ht:Jt L N) (ho:Ő L N=true) {s t:Int} (hs:0≤s∧s<N) (hv:0≤t∧t<N) {p:Int→Int} (hp:Pot L p):p t-p s≤dst L N s t:=by
 have h2:=h.n60;obtain⟨vs,hw⟩:=(i6 h.links (by omega) hp hs).att t hv.1 hv.2 (Ze h ht ho hs hv);obtain⟨u,hu,hx⟩:=(T2.1 hw).pot hp;subst hu;exact hx
def XL (h:gW L N) (ht:Jt L N) (ho:Ő L N=true) {x y:Int} (hx:0≤x∧x<N) (hy:0≤y∧y<N) {t:Int} (h1 : -(dst L N x y)≤t) (h2:t≤dst L N y x):∃p,Pot L p∧p x-p y=t:=by
 refine⟨fun v=>min (dst L N y v) (dst L N x v+t),fun u v m hl=>?_,?_⟩
 ·have a1:=acN h ht ho hy u v m hl;have a2:=acN h ht ho hx u v m hl;show min _ _≤min _ _+m;omega
 ·have e1:=Zd h ho hx;have e2:=Zd h ho hy;show min (dst L N y x) (dst L N x x+t)-min (dst L N y y) (dst L N x y+t)=t;omega
def Ff (h:gW L N) (ht:Jt L N) (ho:Ő L N=true) {x y:Int} (hx:0≤x∧x<N) (hy:0≤y∧y<N) : -(dst L N x y)≤dst L N y x:=by
 have h2:=h.n60;obtain⟨p,hp⟩:=(Μ h.links (by omega)).1 ho;have a1:=ph h ht ho hx hy hp;have a2:=ph h ht ho hy hx hp;omega
def Zf (h:gW L N) (ht:Jt L N) (ho:Ő L N=true) {s t:Int} (hs:0≤s∧s<N) (hv:0≤t∧t<N) : -9007199254740992≤dst L N s t∧dst L N s t≤9007199254740992:=by
 have a1:=acP h ht ho hs hv;have a2:=acP h ht ho hv hs;have a3:=Ff h ht ho hv hs;omega
def yM (h:gW L N) (ht:Jt L N) {s t:Int} (hs:0≤s∧s<N) (hv:0≤t∧t<N):gV L N s t=if Ő L N then(dst L N s t,0) else(0,9):=by
 unfold gV
 by_cases ho:Ő L N=true
 ·have hne:=Ze h ht ho hs hv;unfold dst at hne ⊢;rw[if_neg (by simp[ho]),if_neg hne,if_pos ho]
 ·rw[if_pos (by simpa using ho),if_neg ho]
end
section
variable {b:Ü} {c:Cmp}
def agj (h':Ğ (ë b c)):GL (ë b c) (ô (ë b c)):=by
 intro i g hg l hl;rw[XG];exact cI.2 (.inl (df.2 ⟨g,cM hg,hl⟩))
def jt (h':Ğ (ë b c)):Jt (ô (ë b c)) ((Ë (ë b c)).length+1):=h'.tiedL (agj h')
def jd (h':Ğ (ë b c)):gW (ô (ë b c)) ((Ë (ë b c)).length+1) :=
 h'.sys.sub (fun l hl=>List.mem_of_mem_take hl) (by unfold ô; rw[List.length_take]; omega)
def oW (h:Ğ b) (h':Ğ (ë b c)):Ő (ô (ë b c)) ((Ë (ë b c)).length+1)=Ő (Ý b) ((Ë b).length+1):=by
 have n1:=h.sys.n60;have n2:=(jd h').n60;rw[eZ,Μ (jd h').links (by omega),Μ h.sys.links (by omega)];exact(abK h h').symm
def ye:c∈(ë b c).2.2.2.2.1:=by simp[ë]
def Az (h':Ğ (ë b c)):0≤cx (ë b c) c∧cx (ë b c) c<((Ë (ë b c)).length+1:Nat):=(Sy h' ye).rng
def Ay (h':Ğ (ë b c)):0≤cy (ë b c) c∧cy (ë b c) c<((Ë (ë b c)).length+1:Nat):=(MM h' ye).rng
def dLo (b:Ü) (c:Cmp):Int:=-(dst (ô (ë b c)) ((Ë (ë b c)).length+1) (cx (ë b c) c) (cy (ë b c) c))
def dHi (b:Ü) (c:Cmp):Int:=dst (ô (ë b c)) ((Ë (ë b c)).length+1) (cy (ë b c) c) (cx (ë b c) c)
def Ng (h:Ğ b) (h':Ğ (ë b (È c))):į b c=if Ő (Ý b) ((Ë b).length+1) then Ke b (È c) (dLo b (È c),dHi b (È c)) else((0,0),9):=by
 have e:xX b (È c)=(ë b (È c),0):=by
  unfold xX;rw[if_neg (by simp[(à b).2 h]),if_neg (by simp[(à _).2 h'])]
 unfold į;rw[e,yM (jd h') (jt h') (Ay h') (Az h'),yM (jd h') (jt h') (Az h') (Ay h'),oW h h']
 by_cases ho:Ő (Ý b) ((Ë b).length+1)=true
 ·rw[if_pos ho,if_pos ho,if_pos ho];rfl
 ·rw[if_neg ho,if_neg ho,if_neg ho];rfl
def nM (hp:(į b c).2=0):Ğ b∧Ğ (ë b (È c)):=by
 have hw:(xX b (È c)).2=0:=by
  unfold į at hp
  by_cases hw:(xX b (È c)).2=0
  ·exact hw
  ·rw[if_pos hw] at hp; exact hp
 unfold xX at hw
 by_cases hb:ß b=0
 ·rw[if_neg (by simp[hb])] at hw
  by_cases hm:ß (ë b (È c))=0
  ·exact⟨(à b).1 hb,(à _).1 hm⟩
  ·rw[if_pos hm] at hw; exact absurd hw hm
 ·rw[if_pos hb] at hw; exact absurd hw hb
def WB {s:Int×Int} (h:(Ke b c s).2=0):Xz b c≤BW b c∧Ke b c s=((s.1+Xz b c,s.2+BW b c),0):=by
 unfold Ke at h ⊢
 split at h
 ·simp at h
 ·rename_i hl;rw[if_neg hl];exact⟨by omega,rfl⟩
end
structure Wq (B:Ü):Prop where
 good:Ğ B
 op:Ő (Ý B) ((Ë B).length+1)=true
 num:∀g∈B.2.1,I64 g.2.2.2.2.1.1
theorem Λ {b:Ü} (hI:In b) {ns:List (Int×Int)} (e:(Č b ns).2=0):Wq (Č b ns).1∧(Č b ns).1=(ũ b ns).1∧(ũ b ns).2=0∧Ğ b:=by
 unfold Č at e ⊢
 by_cases hc:ß b=0
 ·rw[if_neg (by simp[hc])] at e ⊢
  by_cases hr:(ũ b ns).2=0
  ·rw[if_neg (by simp[hr])] at e ⊢
   cases ho:Ő (Ý (ũ b ns).1) ((Ë (ũ b ns).1).length+1) with
   |true =>
    rw[if_pos rfl];exact⟨⟨Kh ((à b).1 hc) hr,ho,by rw[tp hr]; exact hI.num⟩,rfl,hr,(à b).1 hc⟩
   |false=>rw[ho] at e; simp at e
  ·rw[if_pos hr] at e; exact absurd e hr
 ·rw[if_pos hc] at e; exact absurd e hc
theorem ċ (B:Ü) (n:Int×Int):0≤jC B n.1 n.2∧jC B n.1 n.2<((Ë B).length+1:Nat):=by
 unfold jC
 cases h:jk (Ë B) n.1 n.2 with
 |none=>dsimp only; omega
 |some j=>have:=(jU h).1; dsimp only; omega
theorem IE {B:Ü} (h:Ğ B) (hn:∀g∈B.2.1,I64 g.2.2.2.2.1.1) (s:Sys) (n:Int×Int):š (B,s) n=some (jC B n.1 n.2):=by
 unfold š Bt;rw[show ĝ (B,s).1 n=ĝ B n from rfl,tg (h.inn hn),À,po h]
 split
 ·rename_i e; rw[e]
 ·rfl
theorem V3 {B:Ü} {L:List Lk} {N:Nat} (h:gW L N) {to from':Int} (h1:0≤to∧to<N) (h2:0≤from'∧from'<N):É (B,(N:Int),L) to from'=some (gV L N from' to).1:=by
 unfold É qQ;rw[show(B,(N:Int),L).2=((N:Int),L) from rfl,J1 h h2 h1,À]
def J6 (B:Ü):Sys:=(((Ë B).length:Int)+1,Ý B)
def JX (B:Ü) (s t:Int):Int:=dst (Ý B) ((Ë B).length+1) s t
def ivR (B:Ü) (n:Int×Int):Int×Int:=(-(JX B (jC B n.1 n.2) 0),JX B 0 (jC B n.1 n.2))
theorem J5 (B:Ü):J6 B=((((Ë B).length+1:Nat):Int),Ý B):=by unfold J6; push_cast; rfl
theorem ę (B:Ü):0≤(0:Int)∧(0:Int)<((Ë B).length+1:Nat):=by omega
section
variable {B:Ü} (h:Wq B)
include h
theorem B6 {s t:Int} (hs:0≤s∧s<((Ë B).length+1:Nat)) (ht:0≤t∧t<((Ë B).length+1:Nat)) : -9007199254740992≤JX B s t∧JX B s t≤9007199254740992 :=
 Zf h.good.sys h.good.tied h.op hs ht
theorem tc {to from':Int} (h1:0≤to∧to<((Ë B).length+1:Nat)) (h2:0≤from'∧from'<((Ë B).length+1:Nat)):É (B,J6 B) to from'=some (JX B from' to):=by
 rw[J5,V3 h.good.sys h1 h2,yM h.good.sys h.good.tied h2 h1,if_pos h.op];rfl
theorem PH (n:Int×Int):η (B,J6 B) n=some (-(JX B (jC B n.1 n.2) 0)):=by
 unfold η qP;have hb:=B6 h (ċ B n) (ę B);rw[IE h.good h.num,À,tc h (ę B) (ċ B n),À,Û (by omega) (by omega)];congr 1;omega
theorem ET (n:Int×Int):gT (B,J6 B) n=some (JX B 0 (jC B n.1 n.2)):=by
 unfold gT lL;rw[IE h.good h.num,À,tc h (ċ B n) (ę B),À]
theorem uH (n:Int×Int):Ŭ (B,J6 B) n=some (ivR B n):=by
 unfold Ŭ lK;rw[PH h,À,ET h,À];rfl
end
def Fv (b:Ü) (n:Int×Int):(Int×Int)×Int:=if (Č b [n]).2≠0 then((0,0),(Č b [n]).2) else(ivR (Č b [n]).1 n,0)
theorem Nh {b:Ü} (hI:In b) (n:Int×Int):mN b n=some (Fv b n):=by
 unfold mN wQ Fv;refine(pC hI (ns:=[n]) (by simp) (fun e=>some (((0,0):Int×Int),e)) (fun e he=>by rw[ģ (by simp[ine,he])]) (fun z he=>by rw[ģ (by simp[ine,he])]) (fun _ _ _=>rfl)).trans ?_
 split
 ·rfl
 ·rename_i e;have hr:=(Λ hI (by simpa using e)).1;dsimp only;rw[uJ,show((((Ë (Č b [n]).1).length:Int)+1,Ý (Č b [n]).1):Sys)=J6 (Č b [n]).1 from rfl,uH hr,À]
theorem aaH {ρ:Type}:@qX ρ=@ā ρ:=rfl
theorem aez {ρ:Type}:@wP ρ=@ā ρ:=rfl
def btR (B:Ü) (m n:Int×Int):Int×Int:=(-(JX B (jC B m.1 m.2) (jC B n.1 n.2)),JX B (jC B n.1 n.2) (jC B m.1 m.2))
def S0 (b:Ü) (m n:Int×Int):(Int×Int)×Int:=if (Č b [m,n]).2≠0 then((0,0),(Č b [m,n]).2) else(btR (Č b [m,n]).1 m n,0)
theorem aaO {b:Ü} (hI:In b) (m n:Int×Int):uL b m n=some (S0 b m n):=by
 unfold uL BB S0;rw[aaH];refine(pC hI (ns:=[m,n]) (by simp) (fun e=>some (((0,0):Int×Int),e)) (fun e he=>by rw[ģ (by simp[ine,he])]) (fun z he=>by rw[ģ (by simp[ine,he])]) (fun _ _ _=>rfl)).trans ?_
 split
 ·rfl
 ·rename_i e;have hr:=(Λ hI (by simpa using e)).1;dsimp only;generalize (Č b [m,n]).1=B at hr ⊢;have hb:=B6 hr (ċ B m) (ċ B n)
  rw[uJ,show((((Ë B).length:Int)+1,Ý B):Sys)=J6 B from rfl,IE hr.good hr.num,À,IE hr.good hr.num,À,tc hr (ċ B n) (ċ B m),À,
   Û (by omega) (by omega),tc hr (ċ B m) (ċ B n),À]
  unfold btR;rw[Int.zero_sub]
def pu (s l:Int×Int):Int:=if l.1≤s.1∧s.2≤l.2 then 1 else if s.2<l.1∨l.2<s.1 then 2 else 3
theorem OM (s l:Int×Int):oY s l=some (pu s l):=by
 unfold oY A4 pu;simp only[Ĵ,ile,ilt,decide_eq_true_eq]
 by_cases h1:l.1≤s.1<;>by_cases h2:s.2≤l.2<;>by_cases h3:s.2<l.1<;>by_cases h4:l.2<s.1<;>simp[h1,h2,h3,h4]
def adI (b:Ü) (n l:Int×Int):Int×Int:=if (Č b [n]).2≠0 then(0,(Č b [n]).2) else if l.2<l.1 then(0,1) else(pu (ivR (Č b [n]).1 n) l,0)
theorem afl {b:Ü} (hI:In b) (n l:Int×Int):E5 b n l=some (adI b n l):=by
 unfold E5 La adI;rw[aez];refine(pC hI (ns:=[n]) (by simp) (fun e=>some ((0:Int),e)) (fun e he=>by rw[Þ (by simp[ine,he])]) (fun z he=>by rw[Þ (by simp[ine,he])]) (fun _ _ _=>rfl)).trans ?_
 split
 ·rfl
 ·rename_i e;have hr:=(Λ hI (by simpa using e)).1;dsimp only
  by_cases hl:l.2<l.1
  ·rw[Þ (by simp[igt,hl]),if_pos hl]
  ·rw[Õ (by simp[igt]; omega),if_neg hl,uJ,show((((Ë (Č b [n]).1).length:Int)+1,Ý (Č b [n]).1):Sys)=J6 (Č b [n]).1 from rfl,uH hr,À,OM,À]
def Nj (x y:List Int):List Int×List Int×Int:=if !iR x then([],[],1) else if !iR y then([],[],1) else(Ď x y,Ď y x,0)
def Wh {x y:List Int} (hx:x.length≤100000) (hy:y.length≤100000):s7 x y=some (Nj x y):=by
 unfold s7 GF Nj;rw[EN (by omega),À]
 cases iR x with
 |false=>rfl
 |true =>
  rw[EN (by omega),À]
  cases iR y with
  |false=>rfl
  |true =>
   rw[ri (by omega) (by omega),À,ri (by omega) (by omega),À];rfl
def Vz (ls:List (List Int)) (i:Nat):(ls.take i).flatten.length≤ls.flatten.length:=by
 conv=>rhs; rw[←List.take_append_drop i ls,fK,cG]
 omega
def n0 {ls:List (List Int)} (hl:ls.length≤1000000) (hf:ls.flatten.length≤1000000):ì ls=some ls.flatten:=by
 have hk:∀n:Nat,n≤4000000→∀(f:Int→Option (List Int)),ck (n:Int) f=f n:=fun n h f=>Û (by omega) (by omega) f
 have second:Í (fun(v9:(Val (.pair tI (.slice tI)))) kk12=>î ls (Ô ls) v9.1 v9.2 (fun u10 u11=>kk12 (u10,u11)) (fun z8=>some z8)) ((0:Int),([]:List Int))=some ls.flatten:=by
  refine Ą ls (fun i=>(ls.take i).flatten) (some ls.flatten) (f:=fun(v9:(Val (.pair tI (.slice tI)))) kk12=>î ls (Ô ls) v9.1 v9.2 (fun u10 u11=>kk12 (u10,u11)) (fun z8=>some z8)) rfl (fun i x hi hx kn=>?_) (fun kn=>?_)
  ·try dsimp only
   unfold î;have h1:=Vz ls (i+1);rw[take_succ hx,List.flatten_append,List.length_append] at h1;simp only[List.flatten_cons,List.flatten_nil,List.append_nil] at h1;rw[Ö hi,Ì hx,Ñ hi (by omega),take_succ hx,List.flatten_append];have:è ((List.take i ls).flatten.length+x.length)=true:=Ø (by omega);rw[ģ this];simp
  ·try dsimp only
   unfold î;rw[ê];simp
 unfold ì iM;refine ť (fun x:Int×Int=>∃i:Nat,i≤ls.length∧x=(((ls.take i).flatten.length:Int),(i:Int))) (fun x=>ls.length-x.2.toNat) ?_ ⟨0,by omega,rfl⟩;rintro x ⟨i,hi,rfl⟩;rcases Nat.lt_or_ge i ls.length with h2|h2
 ·refine .inr ⟨(((ls.take (i+1)).flatten.length:Int),(i:Int)+1),⟨i+1,h2,by simp⟩,by simp; omega,fun kn=>?_⟩;obtain⟨x,hx⟩:∃x,ls[i]?=some x:=⟨_,cD h2⟩;have h1:=Vz ls (i+1);rw[take_succ hx,fK,cG] at h1;simp only[gn,gq,dE] at h1
  try dsimp only
  unfold Ī;rw[Ö h2,Ì hx,á]
  have e1:(((List.take i ls).flatten.length:Int)+(x.length:Int))=((List.take i ls).flatten.length+x.length:Nat):=by omega
  rw[e1,hk _ (by omega)]
  have:ilt ((((List.take i ls).flatten.length+x.length:Nat)):Int) 0=false:=by simp[ilt]; omega
  rw[Õ this,Ñ h2 (by omega),take_succ hx];simp
 ·refine .inl fun kn=>?_
  obtain rfl:i=ls.length:=by omega
  try dsimp only
  unfold Ī;rw[ê,List.take_length];have e2:ilt ((ls.flatten.length:Nat):Int) 0=false:=decide_eq_false (by omega);dsimp only;rw[Õ e2,Int.sub_zero,hk _ (by omega)];rcases Nat.eq_zero_or_pos ls.flatten.length with h0|h0
  ·have:igt (ls.flatten.length:Int) 0=false:=decide_eq_false (by omega);rw[Õ this];exact second
  ·have:igt (ls.flatten.length:Int) 0=true:=decide_eq_true (by omega);rw[Þ this]
   have:((ilt (0:Int) (ls.flatten.length:Int))&&(è (Int.toNat (ls.flatten.length:Int))))=true:=by
    rw[dc,Ø (by omega),gp];exact decide_eq_true (by omega)
   rw[ģ this];have:ile 0 (ą (List.replicate (Int.toNat (ls.flatten.length:Int)) (0:Int)))=true:=decide_eq_true (Int.natCast_nonneg _);rw[ģ this];exact second
def onP (day:Int) (ids:List Int):List (Int×Int):=ids.map fun id=>(id,day)
def Ch {day:Int} {ls:List (List Int)} (hl:ls.length≤1000000) (hf:ls.flatten.length≤1000000):Ţ day ls=some (onP day ls.flatten):=by
 unfold Ţ KW;rw[n0 hl hf,À];refine Ą ls.flatten (fun i=>onP day (ls.flatten.take i)) _ rfl (fun i x hi hx kn=>?_) (fun kn=>?_)
 ·try dsimp only
  unfold pU;rw[Ö hi,Ì hx,Ñ hi (by omega),take_succ hx];have:è (List.length (onP day (ls.flatten.take i))+List.length ([(x,day)]))=true:=Ø (by simp[onP]; omega);rw[ģ this];simp[onP]
 ·try dsimp only
  unfold pU;rw[ê,List.take_length]
def Qi {l:List Int} (hl:l.length≤100000) (m:Int):qC l m=some (iR l&&decide ((l.length:Int)≤m)):=by
 unfold qC QX;rw[Wh hl (by simp),À]
 have e0:iR []=true:=by decide
 unfold Nj;rw[e0,á]
 cases iR l<;>rfl
def abm (n:Int):sV n=some (S7 n):=by
 unfold sV K3 S7 inP;rw[Ĵ]
 by_cases h:0≤n
 ·rw[if_pos (by simpa[ige] using h)]; simp[h]
 ·rw[if_neg (by simpa[ige] using h)]; simp[h]
def EQ {ρ α:Type} (l:List α) (i:Int) (f:α→Option ρ):ç ((ile (0:Int) i)&&(ilt i (ą l))) (ĭ l (Int.toNat i) f)=û l i f:=by
 unfold û
 by_cases h0:0≤i
 ·by_cases h1:i<l.length
  ·have e:((ile (0:Int) i)&&(ilt i (ą l)))=true:=by simp[ile,ilt,h0,h1]
   rw[ģ e];simp only[h0,decide_true];unfold ĭ;rfl
  ·have e:((ile (0:Int) i)&&(ilt i (ą l)))=false:=by simp[ile,ilt,h1]
   rw[e];simp only[h0,decide_true];rw[gy (by omega)];rfl
 ·have e:((ile (0:Int) i)&&(ilt i (ą l)))=false:=by simp[ile,ilt,h0]
  rw[e];simp only[h0,decide_false];rfl
def abA {ρ:Type} (ns:List (Int×Int)) (n:Int):@oQ ρ ns n=@ā ρ n ns:=by
 funext v0 v1 v2 v3 v4 v5 v6 v7 kn k0 k1;unfold oQ ā;rw[EQ]
def Wn (B:Ü) (ns:List (Int×Int)) (s:Int×Int):Int×Int:=ns.foldl (fun s n=>(s.1+(ivR B n).1,s.2+(ivR B n).2)) s
def af2 (B:Ü) (f:Int×Int) (ns:List (Int×Int)):Int×Int:=Wn B ns (((ns.length:Int)-1)*f.1,((ns.length:Int)-1)*f.2)
def Wb (b:Ü) (day:Int) (ids:List Int):(Int×Int)×Int :=
 if ß b≠0 then((0,0),ß b) else if ids.length=0∨iR ids=false∨S7 day=false then((0,0),1) else
 if (Č b (onP day ids)).2≠0 then((0,0),(Č b (onP day ids)).2) else(af2 (Č b (onP day ids)).1 b.1 (onP day ids),0)
def Wx (B:Ü) (x y:List (Int×Int)) (s:Int×Int):Wn B (x++y) s=Wn B y (Wn B x s):=by unfold Wn; rw[List.foldl_append]
def abd {B:Ü} (h:Wq B):∀(ns:List (Int×Int)) (s:Int×Int) (m:Int),-m≤s.1∧s.1≤m→-m≤s.2∧s.2≤m →
 (-(m+ns.length*9007199254740992)≤(Wn B ns s).1∧(Wn B ns s).1≤m+ns.length*9007199254740992)∧(-(m+ns.length*9007199254740992)≤(Wn B ns s).2∧(Wn B ns s).2≤m+ns.length*9007199254740992)
 |[],s,m,h1,h2=>by unfold Wn; simp; omega
 |n::t,s,m,h1,h2=>by
  have b1:=B6 h (ċ B n) (ę B);have b2:=B6 h (ę B) (ċ B n);have:=abd h t (s.1+(ivR B n).1,s.2+(ivR B n).2) (m+9007199254740992) (by unfold ivR; dsimp only; omega) (by unfold ivR; dsimp only; omega);show(-(m+((n::t).length:Nat)*9007199254740992)≤(Wn B t _).1∧_)∧_;unfold Wn at this ⊢;simp only[List.foldl_cons,List.length_cons];push_cast;omega
def adC {b:Ü} (hI:In b) (day:Int) {ids:List Int} (hl:ids.length≤1000):E4 b day ids=some (Wb b day ids):=by
 unfold E4 Rb Wb;rw[Φ hI.size hI.num,À,Qi (by omega),À,abm,À,á]
 by_cases hc:ß b=0
 ·rw[Õ (by simp[ine,hc]),if_neg (show ¬(ß b≠0) from fun h=>h hc)]
  by_cases h0:ids.length=0
  ·rw[Þ (by simp[ieq,h0]),if_pos (.inl h0)]
  ·rw[Õ (beq_eq_false_iff_ne.2 (by omega))]
   by_cases h1:iR ids=true
   ·have hp:=(TK ids).1 h1
    have e1:(iR ids&&decide ((ids.length:Int)≤6))=true:=by rw[h1]; simp; omega
    rw[e1,Õ (by rfl)]
    by_cases h2:S7 day=true
    ·have hg:=(à b).1 hc;rw[Õ (by rw[h2]; rfl),if_neg (by simp[h0,h1,h2]),Ch (by simp) (by simp; omega),À]
     have hlen:(onP day ids).length=ids.length:=by simp[onP]
     rw[show([ids]:List (List Int)).flatten=ids by simp,abA,←Φ hI.size hI.num];refine(pC hI (ns:=onP day ids) (by omega) (fun e=>some (((0,0):Int×Int),e)) (fun e he=>by rw[Þ (by simp[ine,he])]) (fun z he=>by rw[Þ (by simp[ine,he])]) (fun _ _ _=>rfl)).trans ?_
     split
     ·rfl
     ·rename_i e;have hr:=(Λ hI (by simpa using e)).1;have hf:=hg.film;dsimp only;generalize (Č b (onP day ids)).1=B at hr ⊢
      have hm:∀x:Int,0≤x→x≤1000000→0≤((ids.length:Int)-1)*x∧((ids.length:Int)-1)*x≤10000000:=by
       intro x h0 h1;have:((ids.length:Int)-1)*x≤5*1000000:=eG (by omega) h1 h0 (by omega);exact⟨fh (by omega) h0,by omega⟩
      have m1:=hm b.1.1 (by omega) (by omega);have m2:=hm b.1.2 (by omega) (by omega);rw[Û (by omega) (by omega),Û (by omega) (by omega),Û (by omega) (by omega),uJ,show((((Ë B).length:Int)+1,Ý B):Sys)=J6 B from rfl];unfold af2;rw[hlen];refine Ą (onP day ids) (fun i=>Wn B ((onP day ids).take i) (((ids.length:Int)-1)*b.1.1,((ids.length:Int)-1)*b.1.2)) _ rfl (fun i n hi hn kn=>?_) (fun kn=>?_)
      ·try dsimp only
       unfold tR;have b1:=B6 hr (ċ B n) (ę B);have b2:=B6 hr (ę B) (ċ B n);have bs:=abd hr ((onP day ids).take i) (((ids.length:Int)-1)*b.1.1,((ids.length:Int)-1)*b.1.2) 10000000 (by dsimp only; omega) (by dsimp only; omega)
       have bl:(((onP day ids).take i).length:Int)≤6:=by rw[cW]; omega
       rw[Ö hi,Ì hn,uH hr,À,take_succ hn,Wx];generalize Wn B ((onP day ids).take i) (((ids.length:Int)-1)*b.1.1,((ids.length:Int)-1)*b.1.2)=s at bs ⊢;unfold ivR;dsimp only;rw[Û (by omega) (by omega),Û (by omega) (by omega),Ñ hi (by omega)];rfl
      ·try dsimp only
       unfold tR;rw[ê,List.take_length]
    ·have h2':S7 day=false:=by simpa using h2
     rw[h2',Þ (by rfl),if_pos (.inr (.inr rfl))]
   ·have h1':iR ids=false:=by simpa using h1
    rw[h1',Þ (by rfl),if_pos (.inr (.inl rfl))]
 ·rw[Þ (by simp[ine,hc]),if_pos hc]
def oX {α:Type} (p:α→Bool) (l:List α) (i:Nat):((l.take i).filter p).length≤l.length:=by
 have h1:=dw p (l.take i);rw[cW] at h1;omega
def abj (f:Int→Int→Int) (z:Int) (l:List Int) (d:Int):Int:=match l with|[]=>z|x::_=>f x d
def Fg (f:Int→Int→Int) (z:Int) (c:Cmp):Int:=abj f z (Ď c.2.2.1 c.2.2.2.1) c.2.1-abj f z (Ď c.2.2.2.1 c.2.2.1) c.2.1
structure agU (b:Ü) (f:Int→Int→Int) (z:Int) (g:ù):Prop where
 hi:f g.1 g.2.1≤z+(g.2.2.1+g.2.2.2.1.2)
 lo:z+(g.2.2.1+g.2.2.2.1.1)≤f g.1 g.2.1
 down:∀d e,g.2.1≤d→d≤e→f g.1 e≤f g.1 d
 loss:∀d e,g.2.1≤d→d≤e→f g.1 d≤f g.1 e+jP b g d e
structure Qa (b:Ü) (f:Int→Int→Int) (z:Int):Prop where
 gauge:∀g∈b.2.1,agU b f z g
 cmp:∀c∈b.2.2.2.2.1,(ω b c).1≤Fg f z c∧Fg f z c≤(ω b c).2
def VF {b:Ü} (h:Ğ b) {p:Int→Int} (hg:∀g∈b.2.1,pp b p g):∃f:Int→Int→Int,(∀g∈b.2.1,agU b f (p 0) g)∧∀g∈b.2.1,∀d∈é b g,f g.1 d=p (ů b g.1 d):=by
 let f:Int→Int→Int:=fun id d=>match kJ b id with|some g=>fill b p g d|none=>0
 have hfv:∀g∈b.2.1,∀d,f g.1 d=fill b p g d:=fun g hgm d=>by
  show(match kJ b g.1 with|some g=>fill b p g d|none=>0)=_;rw[BX h.ids hgm]
 refine⟨f,fun g hgm=>?_,fun g hgm d hd=>by rw[hfv g hgm]; exact JT h hgm (hg g hgm) hd⟩;have gf:=hg g hgm
 have e0:f g.1 g.2.1=p (ů b g.1 g.2.1):=by rw[hfv g hgm]; exact JT h hgm gf (mg g)
 refine⟨by rw[e0]; exact gf.hi,by rw[e0]; exact gf.lo,fun d e h0 hde=>?_,fun d e h0 hde=>?_⟩
 ·rw[hfv g hgm,hfv g hgm];exact(EX h hgm gf h0 hde).1
 ·rw[hfv g hgm,hfv g hgm];exact(EX h hgm gf h0 hde).2
def Tr {b:Ü} {f:Int→Int→Int} {p:Int→Int} (hm:∀g∈b.2.1,∀d∈é b g,f g.1 d=p (ů b g.1 d)) {l:List Int} {day:Int} (hl:∀x∈l,∃g∈b.2.1,g.1=x∧day∈é b g):p (Jr b l day)=abj f (p 0) l day:=by
 cases l with
 |nil=>rfl
 |cons x t =>
  obtain⟨g,q1,rfl,q3⟩:=hl x (by simp);exact(hm g q1 day q3).symm
def MJ {b:Ü} {f:Int→Int→Int} {p:Int→Int} (hm:∀g∈b.2.1,∀d∈é b g,f g.1 d=p (ů b g.1 d)) {c:Cmp}
 (hl:∀x,x∈Ď c.2.2.1 c.2.2.2.1∨x∈Ď c.2.2.2.1 c.2.2.1→∃g∈b.2.1,g.1=x∧c.2.1∈é b g):p (cx b c)-p (cy b c)=Fg f (p 0) c:=by
 unfold Fg;rw[G3,G2,Tr hm (fun x hx=>hl x (.inl hx)),Tr hm (fun x hx=>hl x (.inr hx))]
def O2 {b:Ü} (h:Ğ b) (f:Int→Int→Int) (z:Int) {l:List Int} {day:Int} (hl:∀x∈l,∃g∈b.2.1,g.1=x∧day∈é b g):Nr b f z (Jr b l day)=abj f z l day:=by
 rw[Hb h f z hl];unfold abj
 cases l<;>rfl
def Kk {b:Ü} (h:Ğ b) {f:Int→Int→Int} {z:Int} {c:Cmp} (hl:∀x,x∈Ď c.2.2.1 c.2.2.2.1∨x∈Ď c.2.2.2.1 c.2.2.1→∃g∈b.2.1,g.1=x∧c.2.1∈é b g):Nr b f z (cx b c)-Nr b f z (cy b c)=Fg f z c:=by
 unfold Fg;rw[G3,G2,O2 h f z (fun x hx=>hl x (.inl hx)),O2 h f z (fun x hx=>hl x (.inr hx))]
def O1 {b:Ü} (h:Ğ b) {f:Int→Int→Int} {z:Int} {g:ù} (hg:g∈b.2.1) (hh:agU b f z g):pp b (Nr b f z) g:=by
 have q:∀d∈é b g,Nr b f z (ů b g.1 d)=f g.1 d:=fun d hd=>wg h f z hg hd;have e0:=q g.2.1 (mg g);refine⟨?_,?_,fun d e hd he hde=>?_,fun d e hd he hde=>?_⟩
 ·rw[e0,mi]; exact hh.hi
 ·rw[e0,mi]; exact hh.lo
 ·rw[q d hd,q e he]; exact hh.down d e (h.day hg hd).1 hde
 ·rw[q d hd,q e he]; exact hh.loss d e (h.day hg hd).1 hde
section
variable {b:Ü} {c:Cmp}
def Qu (h:Ğ b) {p:Int→Int} (hp:Pot (Ý b) p):∃f,Qa b f (p 0)∧∀g∈b.2.1,∀d∈é b g,f g.1 d=p (ů b g.1 d):=by
 obtain⟨hg,hc⟩:=(Qt h).1 hp;obtain⟨f,hf,hm⟩:=VF h hg;refine⟨f,⟨hf,fun c hcm=>?_⟩,hm⟩;have:=MJ hm (c:=c) (fun x hx=>nw h hcm hx);have:=hc c hcm;omega
def Sk (h:Ğ b) {f:Int→Int→Int} {z:Int} (hh:Qa b f z):Pot (Ý b) (Nr b f z):=by
 refine(Qt h).2 ⟨fun g hg=>O1 h hg (hh.gauge g hg),fun c hc=>?_⟩;have:=Kk (f:=f) (z:=z) h (c:=c) (fun x hx=>nw h hc hx);have:=hh.cmp c hc;omega
def Zh (h:Ğ b) {d:Cmp} (hd:d∈b.2.2.2.2.1):∀x,x∈Ď d.2.2.1 d.2.2.2.1∨x∈Ď d.2.2.2.1 d.2.2.1→∃g∈(ë b c).2.1,g.1=x∧d.2.1∈é (ë b c) g:=by
 intro x hx;obtain⟨g,q1,q2,q3⟩:=nw h hd hx;exact⟨g,q1,q2,s8 q3⟩
def acx (h:Ğ b) (h':Ğ (ë b c)) {p:Int→Int} (hp:Pot (ô (ë b c)) p):∃f,Qa b f (p 0)∧p (cx (ë b c) c)-p (cy (ë b c) c)=Fg f (p 0) c:=by
 obtain⟨hg,hc⟩:=(JS h').1 hp;obtain⟨f,hf,hm⟩:=VF h' hg;refine⟨f,⟨fun g hgm=>?_,fun d hd=>?_⟩,MJ hm fun x hx=>nw h' ye hx⟩
 ·have:=hf g hgm;exact⟨this.hi,this.lo,this.down,this.loss⟩
 ·have:=MJ hm (c:=d) (Zh h hd);have:=hc d hd;omega
def acw (h:Ğ b) (h':Ğ (ë b c)) {f:Int→Int→Int} {z:Int} (hh:Qa b f z):Pot (ô (ë b c)) (Nr (ë b c) f z)∧Nr (ë b c) f z (cx (ë b c) c)-Nr (ë b c) f z (cy (ë b c) c)=Fg f z c:=by
 refine⟨(JS h').2 ⟨fun g hg=>O1 h' hg ?_,fun d hd=>?_⟩,Kk h' fun x hx=>nw h' ye hx⟩
 ·have:=hh.gauge g hg;exact⟨this.hi,this.lo,this.down,this.loss⟩
 ·have:=Kk (f:=f) (z:=z) h' (c:=d) (Zh h hd);have:=hh.cmp d hd;omega
def T1 (h:Ğ b):Ő (Ý b) ((Ë b).length+1)=true↔∃f z,Qa b f z:=by
 have:=h.sys.n60;rw[Μ h.sys.links (by omega)];constructor
 ·rintro⟨p,hp⟩;obtain⟨f,hf,_⟩:=Qu h hp;exact⟨f,_,hf⟩
 ·rintro⟨f,z,hh⟩;exact⟨_,Sk h hh⟩
def d_max (h:Ğ b) (h':Ğ (ë b c)) {f:Int→Int→Int} {z:Int} (hh:Qa b f z):dLo b c≤Fg f z c∧Fg f z c≤dHi b c:=by
 have ho:Ő (ô (ë b c)) ((Ë (ë b c)).length+1)=true:=by rw[oW h h']; exact(T1 h).2 ⟨f,z,hh⟩
 obtain⟨hp,hd⟩:=acw h h' hh;have a1:=ph (jd h') (jt h') ho (Az h') (Ay h') hp;have a2:=ph (jd h') (jt h') ho (Ay h') (Az h') hp;unfold dLo dHi;omega
def d_all (h:Ğ b) (h':Ğ (ë b c)) (ho:Ő (Ý b) ((Ë b).length+1)=true) {t:Int} (h1:dLo b c≤t) (h2:t≤dHi b c):∃f z,Qa b f z∧Fg f z c=t:=by
 rw[←oW h h'] at ho;obtain⟨p,hp,hd⟩:=XL (jd h') (jt h') ho (Az h') (Ay h') h1 h2;obtain⟨f,hf,he⟩:=acx h h' hp;exact⟨f,_,hf,by rw[←he]; exact hd⟩
def agx (h:Ğ b) (h':Ğ (ë b c)) (ho:Ő (Ý b) ((Ë b).length+1)=true):dLo b c≤dHi b c:=by
 rw[←oW h h'] at ho;exact Ff (jd h') (jt h') ho (Az h') (Ay h')
structure Pred (b:Ü) (c:Cmp) (s:Int×Int):Prop where
 good:Ğ b
 good2:Ğ (ë b (È c))
 order:Xz b c≤BW b c
 has:∃f z,Qa b f z
 ends:s.1-Xz b c≤s.2-BW b c
 bd : -9007199254740992≤s.1-Xz b c∧s.2-BW b c≤9007199254740992
 all:∀f z,Qa b f z→s.1-Xz b c≤Fg f z c∧Fg f z c≤s.2-BW b c
 each:∀t,s.1-Xz b c≤t→t≤s.2-BW b c→∃f z,Qa b f z∧Fg f z c=t
def TH (hp:(į b c).2=0):Pred b c (į b c).1:=by
 obtain⟨h,h'⟩:=nM hp;rw[Ng h h'] at hp ⊢
 by_cases ho:Ő (Ý b) ((Ë b).length+1)=true
 ·rw[if_pos ho] at hp ⊢;obtain⟨h1,h2⟩:=WB hp;rw[h2];have e1:Xz b (È c)=Xz b c:=rfl;have e2:BW b (È c)=BW b c:=rfl;rw[e1,e2] at *
  have s1:dLo b (È c)+Xz b c-Xz b c=dLo b (È c):=by omega
  have s2:dHi b (È c)+BW b c-BW b c=dHi b (È c):=by omega
  refine⟨h,h',h1,(T1 h).1 ho,?_,?_,fun f z hh=>?_,fun t t1 t2=>?_⟩
  ·simp only;rw[s1,s2];exact agx h h' ho
  ·simp only;rw[s1,s2];rw[←oW h h'] at ho;have a1:=Zf (jd h') (jt h') ho (Az h') (Ay h');have a2:=Zf (jd h') (jt h') ho (Ay h') (Az h');unfold dLo dHi;omega
  ·simp only;rw[s1,s2];exact d_max (c:=È c) h h' hh
  ·simp only at t1 t2;rw[s1] at t1;rw[s2] at t2;exact d_all (c:=È c) h h' ho t1 t2
 ·rw[if_neg ho] at hp;simp at hp
end
def ln (b:Ü) (n:Int×Int):Prop:=∃g∈b.2.1,g.1=n.1∧n.2∈é b g
theorem Sj {b:Ü} (h:Ğ b) {n:Int×Int}:jC b n.1 n.2≠0↔ln b n:=by
 unfold jC;constructor
 ·intro hne
  cases hx:jk (Ë b) n.1 n.2 with
  |none=>rw[hx] at hne; simp at hne
  |some j =>
   have hm:=List.mem_of_getElem? (jU hx).2;unfold Ë at hm;obtain⟨g,hg,hd⟩:=List.mem_flatMap.1 hm;obtain⟨d,hd,e⟩:=List.mem_map.1 hd;simp only[Prod.mk.injEq] at e;obtain⟨e1,rfl⟩:=e;exact⟨g,hg,e1,hd⟩
 ·rintro⟨g,hg,e,hd⟩;obtain⟨i,hi,rfl⟩:=List.mem_iff_getElem.1 hg;obtain⟨k,hk,e2⟩:=List.mem_iff_getElem.1 hd;rw[←e,QK h (List.getElem?_eq_getElem hi) (by rw[List.getElem?_eq_getElem hk,e2])];dsimp only;omega
theorem Vp (b:Ü) (x d:Int):jC b x d=ů b x d:=rfl
theorem acV (b:Ü) (n:Int×Int) (g:ù) {d:Int} (hd:d∈é b g):d∈é (ki b n) g:=by
 unfold é at hd ⊢;rw[yb] at hd ⊢;unfold Sw ki at *;simp only[List.mem_append,List.mem_map,List.mem_filter] at hd ⊢;rcases hd with(h|h)|⟨m,⟨h1,h2⟩,h3⟩
 ·exact .inl (.inl h)
 ·exact .inl (.inr h)
 ·exact .inr ⟨m,⟨.inl h1,h2⟩,h3⟩
theorem ace {b:Ü} (n:Int×Int) (h':Ğ (ki b n)):ln (ki b n) n:=by
 have hu:=h'.looks n (by simp[ki]);unfold adW at hu
 split at hu
 ·omega
 obtain⟨g,hg,_⟩:=FQ h' hu;obtain⟨hm,e⟩:=qB hg;refine⟨g,hm,e,?_⟩;unfold é;rw[yb];unfold Sw ki;simp only[List.mem_append,List.mem_map,List.mem_filter];exact .inr ⟨n,⟨.inr (by simp),by simp[e]⟩,rfl⟩
theorem J8 {b:Ü} {n:Int×Int} (e:(iQ b n).2=0):(iQ b n=(b,0)∧jC b n.1 n.2≠0)∨(iQ b n=(ki b n,0)∧Ğ (ki b n)∧jC b n.1 n.2=0):=by
 unfold iQ at e ⊢
 split
 ·rename_i h; exact .inl ⟨rfl,h⟩
 ·rename_i h1;rw[if_neg h1] at e
  split
  ·rename_i h2; rw[if_pos h2] at e; exact absurd e h2
  ·rename_i h2; exact .inr ⟨rfl,(à _).1 (by simpa using h2),by simpa using h1⟩
theorem Tz:∀{ns:List (Int×Int)} {b:Ü},(ũ b ns).2=0→∀n,ln b n→ln (ũ b ns).1 n
 |[],b,_,n,hn=>hn
 |m::t,b,e,n,hn=>by
  unfold ũ at e ⊢
  split
  ·rename_i h1; rw[if_pos h1] at e; exact absurd e h1
  ·rename_i h1;rw[if_neg h1] at e;refine Tz e n ?_;rcases J8 (by simpa using h1) with⟨h,_⟩|⟨h,_,_⟩
   ·rw[h]; exact hn
   ·rw[h];obtain⟨g,hg,e1,hd⟩:=hn;exact⟨g,hg,e1,acV b m g hd⟩
theorem Tx:∀{ns:List (Int×Int)} {b:Ü},Ğ b→(ũ b ns).2=0→∀n∈ns,ln (ũ b ns).1 n
 |[],b,_,_,n,hn=>by simp at hn
 |m::t,b,hg,e,n,hn=>by
  unfold ũ at e ⊢
  split
  ·rename_i h1; rw[if_pos h1] at e; exact absurd e h1
  ·rename_i h1;rw[if_neg h1] at e
   have h1':(iQ b m).2=0:=by simpa using h1
   rcases cJ.1 hn with rfl|hn
   ·refine Tz e n ?_;rcases J8 h1' with⟨h,h2⟩|⟨h,h2,_⟩
    ·rw[h]; exact(Sj hg).1 h2
    ·rw[h]; exact ace n h2
   ·exact Tx (Tk hg h1') e n hn
theorem acf {b:Ü} {n:Int×Int} {f:Int→Int→Int} {z:Int}:Qa (ki b n) f z↔Qa b f z :=
 ⟨fun h=>⟨fun g hg=>by have:=h.gauge g hg; exact⟨this.hi,this.lo,this.down,this.loss⟩,h.cmp⟩,fun h=>⟨fun g hg=>by have:=h.gauge g hg; exact⟨this.hi,this.lo,this.down,this.loss⟩,h.cmp⟩⟩
theorem TA:∀{ns:List (Int×Int)} {b:Ü},(ũ b ns).2=0→∀{f:Int→Int→Int} {z:Int},Qa (ũ b ns).1 f z↔Qa b f z
 |[],b,_,f,z=>Iff.rfl
 |m::t,b,e,f,z=>by
  unfold ũ at e ⊢
  split
  ·rename_i h1; rw[if_pos h1] at e; exact absurd e h1
  ·rename_i h1;rw[if_neg h1] at e;rw[TA e];rcases J8 (by simpa using h1) with⟨h,_⟩|⟨h,_,_⟩
   ·rw[h]
   ·rw[h]; exact acf
section
variable {B:Ü} (h:Wq B)
include h
theorem QJ {p:Int→Int} {f:Int→Int→Int} (hm:∀g∈B.2.1,∀d∈é B g,f g.1 d=p (ů B g.1 d)) {n:Int×Int} (hn:ln B n):p (jC B n.1 n.2)=f n.1 n.2:=by
 obtain⟨g,hg,e,hd⟩:=hn;rw[Vp,←e,hm g hg n.2 hd]
theorem Qs (f:Int→Int→Int) (z:Int) {n:Int×Int} (hn:ln B n):Nr B f z (jC B n.1 n.2)=f n.1 n.2:=by
 obtain⟨g,hg,e,hd⟩:=hn;rw[Vp,←e,wg h.good f z hg hd]
theorem iv_in {n:Int×Int} (hn:ln B n) {f:Int→Int→Int} {z:Int} (hh:Qa B f z):(ivR B n).1≤f n.1 n.2-z∧f n.1 n.2-z≤(ivR B n).2:=by
 have hp:=Sk h.good hh;have a1:=ph h.good.sys h.good.tied h.op (ċ B n) (ę B) hp;have a2:=ph h.good.sys h.good.tied h.op (ę B) (ċ B n) hp;rw[Qs h f z hn,mi] at a1 a2;unfold ivR JX;dsimp only;omega
theorem iv_at {n:Int×Int} (hn:ln B n) {t:Int} (h1:(ivR B n).1≤t) (h2:t≤(ivR B n).2):∃f z,Qa B f z∧f n.1 n.2-z=t:=by
 obtain⟨p,hp,e⟩:=XL h.good.sys h.good.tied h.op (ċ B n) (ę B) (t:=t) h1 h2;obtain⟨f,hf,hm⟩:=Qu h.good hp;exact⟨f,p 0,hf,by rw[←QJ h hm hn]; exact e⟩
theorem aeA (n:Int×Int):(ivR B n).1≤(ivR B n).2:=Ff h.good.sys h.good.tied h.op (ċ B n) (ę B)
theorem bt_in {m n:Int×Int} (hm':ln B m) (hn:ln B n) {f:Int→Int→Int} {z:Int} (hh:Qa B f z):(btR B m n).1≤f m.1 m.2-f n.1 n.2∧f m.1 m.2-f n.1 n.2≤(btR B m n).2:=by
 have hp:=Sk h.good hh;have a1:=ph h.good.sys h.good.tied h.op (ċ B m) (ċ B n) hp;have a2:=ph h.good.sys h.good.tied h.op (ċ B n) (ċ B m) hp;rw[Qs h f z hn,Qs h f z hm'] at a1 a2;unfold btR JX;dsimp only;omega
theorem bt_at {m n:Int×Int} (hm':ln B m) (hn:ln B n) {t:Int} (h1:(btR B m n).1≤t) (h2:t≤(btR B m n).2):∃f z,Qa B f z∧f m.1 m.2-f n.1 n.2=t:=by
 obtain⟨p,hp,e⟩:=XL h.good.sys h.good.tied h.op (ċ B m) (ċ B n) (t:=t) h1 h2;obtain⟨f,hf,hm⟩:=Qu h.good hp;exact⟨f,p 0,hf,by rw[←QJ h hm hn,←QJ h hm hm']; exact e⟩
theorem afd (m n:Int×Int):(btR B m n).1≤(btR B m n).2:=Ff h.good.sys h.good.tied h.op (ċ B m) (ċ B n)
end
structure Ye (b:Ü) (ns:List (Int×Int)) (B:Ü):Prop where
 room:Wq B
 nodes:∀n∈ns,ln B n
 hist:∀{f:Int→Int→Int} {z:Int},Qa B f z↔Qa b f z
 good:Ğ b
 gauges:B.2.1=b.2.1
theorem yd {b:Ü} (hI:In b) {ns:List (Int×Int)} (e:(Č b ns).2=0):Ye b ns (Č b ns).1:=by
 obtain⟨h1,h2,h3,h4⟩:=Λ hI e;exact⟨h1,by rw[h2]; exact Tx h4 h3,by rw[h2]; exact TA h3,h4,by rw[h2]; exact tp h3⟩
def P4 (c:Cmp):Bool:=decide (c.2.2.1.length≤10)&&decide (c.2.2.2.1.length≤10)
theorem adn (c:Cmp):yw c=some (P4 c):=by
 unfold yw FT P4;rw[á,á,Ĵ]
 by_cases h:c.2.2.1.length≤10
 ·rw[if_pos (by simp[ile]; omega)];simp[ile,h];omega
 ·rw[if_neg (by simp[ile]; omega)];simp[h]
def fewP (b:Ü):Bool :=
 !((b.2.2.2.2.1.take 50).any fun c=>!P4 c)&&(decide (b.2.1.length≤14)&&(decide (b.2.2.1.length≤45)&&(decide (b.2.2.2.1.length≤14)&&(decide (b.2.2.2.2.1.length≤42)&&decide (b.2.2.2.2.2.length≤12)))))
theorem few_ok (b:Ü):JU b=some (fewP b):=by
 unfold JU QV
 have last:(ifb (ile (Ô b.2.1) (14:Int)) (ifb (ile (Ô b.2.2.1) (45:Int)) (ifb (ile (Ô b.2.2.2.1) (14:Int)) (ifb (ile (Ô b.2.2.2.2.1) (42:Int)) (some (ile (Ô b.2.2.2.2.2) (12:Int))) (some false)) (some false)) (some false)) (some false)) =
  some (decide (b.2.1.length≤14)&&(decide (b.2.2.1.length≤45)&&(decide (b.2.2.2.1.length≤14)&&(decide (b.2.2.2.2.1.length≤42)&&decide (b.2.2.2.2.2.length≤12))))):=by
  have e:∀(n m:Nat),ile (n:Int) (m:Int)=decide (n≤m):=fun n m=>by simp[ile]
  rw[á,á,á,á,á,show(14:Int)=((14:Nat):Int) from rfl,show(45:Int)=((45:Nat):Int) from rfl,show(42:Int)=((42:Nat):Int) from rfl,show(12:Int)=((12:Nat):Int) from rfl,e,e,e,e,e];generalize decide (b.2.1.length≤14)=x1;generalize decide (b.2.2.1.length≤45)=x2;generalize decide (b.2.2.2.1.length≤14)=x3;generalize decide (b.2.2.2.2.1.length≤42)=x4
  cases x1<;>cases x2<;>cases x3<;>cases x4<;>rfl
 rw[last];refine fG (gK (b.2.2.2.2.1.take 50) (fun c=>!P4 c) (fun _=>some false) (some false) (some (decide (b.2.1.length≤14)&&(decide (b.2.2.1.length≤45)&&(decide (b.2.2.2.1.length≤14)&&(decide (b.2.2.2.2.1.length≤42)&&decide (b.2.2.2.2.2.length≤12)))))) (fun _=>rfl) (fun i c hi hc kn=>?_) (fun kn=>?_)) ?_
 ·try dsimp only
  unfold tB;rw[List.length_take] at hi
  have hc':b.2.2.2.2.1[i]?=some c:=by rw[dT] at hc; split at hc<;>simp_all
  rw[Ö (show i<b.2.2.2.2.1.length by omega),Þ (decide_eq_true (by omega)),Ì hc',adn,À,Û (by omega) (by omega),Ĵ]
 ·try dsimp only
  unfold tB;rw[List.length_take,Ĵ]
  split
  ·rename_i h
   have h':50<b.2.2.2.2.1.length:=by rw[á] at h; simp[ilt] at h; omega
   rw[Õ (decide_eq_false (by omega))]
  ·rfl
 ·unfold fewP
  cases List.any (List.take 50 b.2.2.2.2.1) (fun c=>!P4 c)<;>rfl
theorem aeK {b:Ü} (h:fewP b=true):ke b:=by
 simp only[fewP,cF,eA,decide_eq_true_eq] at h;obtain⟨h0,h1,h2,h3,h4,h5⟩:=h;refine⟨by omega,by omega,by omega,by omega,by omega,fun c hc=>?_⟩;rw[dS (by omega)] at h0;have:=eN.1 h0 c hc;simp[P4] at this;omega
section
variable {ρ:Type}
abbrev Rm:Type:=Val (.ptr afs)
def agL (rm:Rm) (y:List Int) (u:List Bool) (K:Int→Option ρ):Option ρ :=
 Í (fun(v8:Int×Int) kk11=>iA y (Ô y) rm u v8.1 v8.2 (fun u9 u10=>kk11 (u9,u10)) K) ((0:Int),(0:Int))
def agJ (M:Int→List Bool→(Int×List Bool→Option ρ)→Option ρ) (rm:Rm) (x y:List Int) (c0 v0 v1:Int) (v2:List Bool) (kn:Int→Int→List Bool→Option ρ) (k0:Int×List Bool→Option ρ):Option ρ :=
 ifb (ilt v1 (Ô y)) (û y v1 fun e=>ç ((ile (0:Int) v1)&&(ilt v1 (ą v2))) (ĭ v2 (Int.toNat v1) fun b=>ifb b (ck (v1+(1:Int)) fun n=>kn v0 n v2)
  (ç ((ile (0:Int) v1)&&(ilt v1 (ą v2))) (ĭ v2 (Int.toNat v1) fun _=>û x c0 fun a=>Â (É rm a e) fun r=>ck (c0+(1:Int)) fun k1=>M k1 (List.set v2 (Int.toNat v1) true) (fun z=>ck (r+z.1) fun s =>
   ç ((ile (0:Int) v1)&&(ilt v1 (ą z.2))) (ĭ z.2 (Int.toNat v1) fun _=>ck (v1+(1:Int)) fun n=>kn (Cb v0 s) n (List.set z.2 (Int.toNat v1) false))))))) (k0 (v0,v2))
def Uc (rm:Rm) (x y:List Int):Nat→Int→List Bool→(Int×List Bool→Option ρ)→Option ρ
 |0,_,_,_=>none
 |n+1,k,u,K=>ifb (ieq k (Ô x)) (agL rm y u fun z=>K (z,u)) (û x k fun e=>Â (É rm e (0:Int)) fun r=>ck (k+(1:Int)) fun k1=>Uc rm x y n k1 u fun z=>ck (r+z.1) fun s =>
    Í (fun(v:Int×Int×List Bool) kk=>agJ (Uc rm x y n) rm x y k v.1 v.2.1 v.2.2 (fun a b c=>kk (a,b,c)) K) (s,(0:Int),z.2))
def aep (rm:Rm) (x y:List Int):Ρ rm x y=ç ((ile (0:Int) (Ô y))&&(è (Int.toNat (Ô y)))) (Uc rm x y 4 0 (List.replicate (Int.toNat (Ô y)) false) fun z=>some z.1):=rfl
end
section
variable {ρ:Type}
def qG (R:Int→Int→Int):List Int→List Bool→Int
 |n::y,u::us=>(if u then 0 else R 0 n)+qG R y us
 |_,_=>0
def II (R:Int→Int→Int) (a:Int) (M:List Bool→Int) (y:List Int) (u:List Bool) (v:Int) (i:Nat):Int:=if u[i]?.getD true then v else min v (R a (y[i]?.getD 0)+M (u.set i true))
def ŋ (R:Int→Int→Int):List Int→List Int→List Bool→Int
 |[],y,u=>qG R y u
 |a::x,y,u=>(List.range y.length).foldl (II R a (ŋ R x y) y u) (R a 0+ŋ R x y u)
structure RmOk (rm:Rm) (R:Int→Int→Int) (V:Int→Prop):Prop where
 run:∀a b,V a→V b→∀{σ:Type} (K:Int→Option σ),Â (É rm a b) K=K (R a b)
 bd:∀a b,V a→V b→-9007199254740992≤R a b∧R a b≤9007199254740992
 zero:V 0
variable {rm:Rm} {R:Int→Int→Int} {V:Int→Prop} (hR:RmOk rm R V)
include hR
theorem Qn:∀(y:List Int) (u:List Bool),(∀a∈y,V a)→-(y.length*9007199254740992)≤qG R y u∧qG R y u≤y.length*9007199254740992
 |[],u,_=>by cases u<;>simp[qG]
 |n::y,[],_=>by simp only[qG,cN]; omega
 |n::y,u::us,h=>by
  have h1:=Qn y us (fun a ha=>h a (dK _ ha));have h2:=hR.bd 0 n hR.zero (h n (by simp));simp only[qG,cN];push_cast;cases u
  ·rw[if_neg (by simp)]; omega
  ·rw[if_pos rfl]; omega
omit hR in
theorem OY:∀(y:List Int) (u:List Bool) (n:Int) (b:Bool),y.length=u.length→qG R (y++[n]) (u++[b])=qG R y u+(if b then 0 else R 0 n)
 |[],[],n,b,_=>by simp[qG]
 |m::y,c::u,n,b,h=>by
  have:=OY y u n b (by simpa using h);simp only[d8,qG,this];omega
theorem agK {y:List Int} (hy:y.length≤1000) (hV:∀a∈y,V a) {u:List Bool} (hu:u.length=y.length) (K:Int→Option ρ):agL rm y u K=K (qG R y u):=by
 unfold agL;refine ť (fun v:Int×Int=>∃i:Nat,i≤y.length∧v=(qG R (y.take i) (u.take i),(i:Int))) (fun v=>y.length-v.2.toNat) ?_ ⟨0,by omega,rfl⟩;rintro v ⟨i,hi,rfl⟩;rcases Nat.lt_or_ge i y.length with h|h
 ·have hg:y[i]?=some y[i]:=cD h;have hgu:u[i]?=some (u[i]'(by omega)):=cD (by omega)
  have e:qG R (y.take (i+1)) (u.take (i+1))=qG R (y.take i) (u.take i)+(if u[i]'(by omega) then 0 else R 0 y[i]):=by
   rw[take_succ hg,take_succ hgu,OY _ _ _ _ (by simp; omega)]
  have hb:=Qn hR (y.take i) (u.take i) (fun a ha=>hV a (List.mem_of_mem_take ha));have hvi:V y[i]:=hV _ (dP h);have hb2:=hR.bd 0 y[i] hR.zero hvi
  have hl:(y.take i).length≤1000:=by simp; omega
  refine .inr ⟨(qG R (y.take (i+1)) (u.take (i+1)),((i+1:Nat):Int)),⟨i+1,h,rfl⟩,by simp; omega,fun kn=>?_⟩;dsimp only;unfold iA;rw[Ö h,Ì hg,EQ,Ì hgu,e]
  cases hui:u[i]'(by omega) with
  |true =>
   rw[if_pos rfl,dI,ã,Ñ h (by omega),gg];rfl
  |false =>
   rw[if_neg (by simp),gi,Ĥ,hR.run 0 y[i] hR.zero hvi,Û (by omega) (by omega),Ñ h (by omega)];rfl
 ·refine .inl fun kn=>?_
  obtain rfl:i=y.length:=by omega
  dsimp only;unfold iA;rw[ê,List.take_length,←hu,List.take_length]
omit hR in
theorem XI {D:Int} {f:Int→Nat→Int} (hf:∀v i,-D≤v∧v≤D→-D≤f v i∧f v i≤D):∀(l:List Nat) (v:Int),-D≤v∧v≤D→-D≤l.foldl f v∧l.foldl f v≤D
 |[],v,h=>h
 |i::l,v,h=>XI hf l _ (hf v i h)
theorem KJ {y:List Int} (hV:∀a∈y,V a):∀(x:List Int) (u:List Bool),(∀a∈x,V a)→-((x.length+y.length)*9007199254740992)≤ŋ R x y u∧ŋ R x y u≤(x.length+y.length)*9007199254740992
 |[],u,_=>by
  have:=Qn hR y u hV;unfold ŋ;simp only[List.length_nil];omega
 |a::x,u,h=>by
  have ih:=fun u=>KJ hV x u (fun b hb=>h b (List.mem_cons_of_mem _ hb));have ha:=h a (by simp);unfold ŋ;have h0:=ih u;have hb0:=hR.bd a 0 ha hR.zero;refine XI (fun v i hv=>?_) _ _ ?_
  ·unfold II
   split
   ·exact hv
   ·have h1:=ih (u.set i true)
    have h2 : -9007199254740992≤R a (y[i]?.getD 0)∧R a (y[i]?.getD 0)≤9007199254740992:=by
     cases hy:y[i]? with
     |none=>exact hR.bd a 0 ha hR.zero
     |some n=>exact hR.bd a n ha (hV n (cM hy))
    simp only[cN] at hv ⊢;push_cast at hv ⊢;omega
  ·simp only[cN];push_cast;omega
theorem match_ok {X y:List Int} (hX:X.length≤100) (hy:y.length≤100) (hVX:∀a∈X,V a) (hV:∀a∈y,V a) :
 ∀(n k:Nat) (u:List Bool) (K:Int×List Bool→Option ρ),k≤X.length→X.length<k+n→u.length=y.length→Uc rm X y n (k:Int) u K=K (ŋ R (X.drop k) y u,u):=by
 intro n
 induction n with
 |zero=>intro k u K h1 h2; omega
 |succ n ih =>
  intro k u K h1 h2 hu;unfold Uc;rcases Nat.lt_or_ge k X.length with h|h
  ·have hg:X[k]?=some X[k]:=cD h;have ha:V X[k]:=hVX _ (dP h);have hd:X.drop k=X[k]::X.drop (k+1):=d9 h
   have hdl:(X.drop (k+1)).length≤100:=by simp; omega
   have hVd:∀a∈X.drop (k+1),V a:=fun a hm=>hVX a (List.mem_of_mem_drop hm);have hb0:=hR.bd X[k] 0 ha hR.zero;have hmb:=fun u=>KJ hR hV (X.drop (k+1)) u hVd;have hm0:=hmb u;rw[Õ (show ieq (k:Int) (Ô X)=false by rw[á]; exact beq_eq_false_iff_ne.2 (by omega)),Ì hg,hR.run _ _ ha hR.zero,Ñ h (by omega)];rw[show(k:Int)+1=((k+1:Nat):Int) by push_cast; rfl,ih (k+1) u _ h (by omega) hu];dsimp only;rw[Û (by omega) (by omega),hd]
   -- the loop
   have hfb:∀i,-((1+100+100)*9007199254740992)≤((List.range y.length).take i).foldl (II R X[k] (ŋ R (X.drop (k+1)) y) y u) (R X[k] 0+ŋ R (X.drop (k+1)) y u)∧((List.range y.length).take i).foldl (II R X[k] (ŋ R (X.drop (k+1)) y) y u) (R X[k] 0+ŋ R (X.drop (k+1)) y u)≤(1+100+100)*9007199254740992:=fun i=>by
    refine XI (fun v i hv=>?_) _ _ (by omega);unfold II
    split
    ·exact hv
    ·have h1:=hmb (u.set i true)
     have h2 : -9007199254740992≤R X[k] (y[i]?.getD 0)∧R X[k] (y[i]?.getD 0)≤9007199254740992:=by
      cases hy:y[i]? with
      |none=>exact hR.bd _ 0 ha hR.zero
      |some n=>exact hR.bd _ n ha (hV n (cM hy))
     omega
   refine ť (fun v:Int×Int×List Bool=>∃i:Nat,i≤y.length∧v=(((List.range y.length).take i).foldl (II R X[k] (ŋ R (X.drop (k+1)) y) y u) (R X[k] 0+ŋ R (X.drop (k+1)) y u),(i:Int),u)) (fun v=>y.length-v.2.1.toNat) ?_ ⟨0,by omega,rfl⟩;rintro v ⟨i,hi,rfl⟩;rcases dt i y.length with h3|h3
   ·have hgy:y[i]?=some y[i]:=cD h3;have hgu:u[i]?=some (u[i]'(by omega)):=cD (by omega);have hvy:V y[i]:=hV _ (dP h3)
    have hgr:(List.range y.length)[i]?=some i:=by rw[fJ h3]
    have hv:=hfb i;refine .inr ⟨(((List.range y.length).take (i+1)).foldl (II R X[k] (ŋ R (X.drop (k+1)) y) y u) (R X[k] 0+ŋ R (X.drop (k+1)) y u),((i+1:Nat):Int),u),⟨i+1,h3,rfl⟩,by simp; omega,fun kn=>?_⟩;rw[take_succ hgr,List.foldl_append];simp only[List.foldl_cons,List.foldl_nil];generalize ((List.range y.length).take i).foldl (II R X[k] (ŋ R (X.drop (k+1)) y) y u) (R X[k] 0+ŋ R (X.drop (k+1)) y u)=v at hv;unfold agJ;rw[Ö h3,Ì hgy,EQ,Ì hgu];unfold II;rw[hgu,hgy];simp only[Option.getD_some]
    cases hui:u[i]'(by omega) with
    |true =>
     rw[Ĥ,Ñ h3 (by omega),if_pos rfl];rfl
    |false =>
     have hmi:=hmb (u.set i true);have hby:=hR.bd X[k] y[i] ha hvy
     have hgs:(u.set i true)[i]?=some true:=by rw[List.getElem?_set_self (by omega)]
     rw[ã,EQ,Ì hgu,Ì hg,hR.run _ _ ha hvy,Ñ h (by omega),Int.toNat_natCast];rw[show(k:Int)+1=((k+1:Nat):Int) by push_cast; rfl,ih (k+1) _ _ h (by omega) (by rw[List.length_set]; exact hu)];dsimp only;rw[Û (by omega) (by omega),show ç ((ile (0:Int) (i:Int))&&(ilt (i:Int) (ą (u.set i true)))) (ĭ (u.set i true) i fun _=>ck ((i:Int)+(1:Int)) fun n=>kn (Cb v (R X[k] y[i]+ŋ R (X.drop (k+1)) y (u.set i true)),n,List.set (u.set i true) i false))=û (u.set i true) (i:Int) fun _=>ck ((i:Int)+(1:Int)) fun n=>kn (Cb v (R X[k] y[i]+ŋ R (X.drop (k+1)) y (u.set i true)),n,List.set (u.set i true) i false) from EQ _ _ _];rw[Ì hgs,Ñ h3 (by omega),GO,if_neg (by simp),List.set_set]
     have hself:u.set i false=u:=by
      have:=gA (as:=u) (i:=i) (by omega);rw[hui] at this;exact this
     rw[hself];rfl
   ·refine .inl fun kn=>?_
    obtain rfl:i=y.length:=by omega
    dsimp only;unfold agJ;rw[ê];rw[show(List.range y.length).take y.length=List.range y.length from List.take_of_length_le (by simp)];rfl
  ·have:k=X.length:=by omega
   subst this;rw[Þ (show ieq ((X.length:Nat):Int) (Ô X)=true by rw[á]; exact beq_self_eq_true _),agK hR (by omega) hV hu,gx];rfl
theorem agd {x y:List Int} (hx:x.length≤3) (hy:y.length≤100) (hVX:∀a∈x,V a) (hV:∀a∈y,V a):Ρ rm x y=some (ŋ R x y (List.replicate y.length false)):=by
 rw[aep,á,dc,ģ (by simp only[ile]; rw[Ø (by omega)]; simp)];have:=match_ok (ρ:=Int) hR (by omega) hy hVX hV 4 0 (List.replicate y.length false) (fun z=>some z.1) (by omega) (by omega) (by simp);exact this
end
theorem Tw {B:Ü} (h:Wq B):RmOk (B,J6 B) (fun a b=>JX B b a) (fun a=>0≤a∧a<((Ë B).length+1:Nat)) :=
 ⟨fun a b ha hb _ K=>by rw[tc h ha hb,À],fun a b ha hb=>B6 h hb ha,ę B⟩
def acT {ρ:Type} (ns:List (Int×Int)) (n:Int):@kD ρ ns n=@ā ρ n ns:=(show @kD ρ ns n=@oQ ρ ns n from rfl).trans (abA ns n)
def abJ {ρ:Type} {b:Ü} (hI:In b) {ns:List (Int×Int)} (hl:ns.length≤1000) {E0:Int→Option ρ} {E1:Int×Flat→Option ρ} {E2:Flat→Sys×List (Int×Int)×Int→Option ρ} {E3:Flat→Sys×List (Int×Int)×Int→Bool×Int→Option ρ}
 {K:Flat→Sys×List (Int×Int)×Int→Bool×Int→Option ρ} (R:Int→Option ρ) (h0:∀e,e≠0→E0 e=R e) (h1:∀z,z.1≠0→E1 z=R z.1) (h3:∀z s r,E3 z s r=R 9) :
 ifb (ine (ß b) (0:Int)) (E0 (ß b)) (aeb ns E1 (fun z8=>Â (Đ ((z8.1,z8.2.1),z8.2.2)) fun r9=>ifb (ine r9.2.2 (0:Int)) (E2 z8 r9) (Â (þ r9.1) fun r10=>ifb (!r10.1) (E3 z8 r9 r10) (K z8 r9 r10))) b) =
 if (Č b ns).2≠0 then R (Č b ns).2 else K (flat (Č b ns).1) ((((Ë (Č b ns).1).length:Int)+1,Ý (Č b ns).1),ŕ (Č b ns).1,0) (true,0):=by
 have:=pC hI hl R h0 h1 h3 (E2:=E2) (K:=K)
 rwa [Φ hI.size hI.num,À] at this
def KH (B:Ü) (p q:List Int):Int:=ŋ (fun a b=>JX B b a) p q (List.replicate q.length false)
def atL (B:Ü) (ns:List (Int×Int)):List Int:=ns.map fun n=>jC B n.1 n.2
def MK (B:Ü) (f:Int×Int) (day:Int) (x y:List Int):Int×Int :=
 (max 0 ((x.length:Int)-1)*f.1-max 0 ((y.length:Int)-1)*f.2-KH B (atL B (onP day y)) (atL B (onP day x)),max 0 ((x.length:Int)-1)*f.2-max 0 ((y.length:Int)-1)*f.1+KH B (atL B (onP day x)) (atL B (onP day y)))
def argD (day:Int) (x y:List Int):Bool:=(iR x&&decide (x.length≤3))&&((iR y&&decide (y.length≤3))&&(decide (x.length+y.length≠0)&&(!(x.any fun i=>y.contains i)&&S7 day)))
def Ŕ (b:Ü) (day:Int) (x y:List Int):(Int×Int)×Int :=
 if ß b≠0 then((0,0),ß b) else if argD day x y=false then((0,0),1) else
 if (Č b (onP day (x++y))).2≠0 then((0,0),(Č b (onP day (x++y))).2) else(MK (Č b (onP day (x++y))).1 b.1 day x y,0)
def adv {ρ:Type} {B:Ü} (h:Ğ B) (hn:∀g∈B.2.1,I64 g.2.2.2.2.1.1) (s:Sys) {ns:List (Int×Int)} (hl:ns.length≤1000) (K:List Int→Option ρ) :
 Í (fun(v50:(Val (.pair tI (.slice tI)))) kk53=>ii (B,s) ns (Ô ns) v50.1 v50.2 (fun u51 u52=>kk53 (u51,u52)) K) ((0:Int),[])=K (atL B ns):=by
 refine Ą ns (fun i=>atL B (ns.take i)) _ rfl (fun i n hi hg kn=>?_) (fun kn=>?_)
 ·try dsimp only
  unfold ii
  have hlt:(atL B (ns.take i)).length≤1000:=by simp[atL]; omega
  rw[Ö hi,Ì hg,IE h hn,À,Ø (by simp only[List.length_singleton]; omega),Am.iff_true,Ñ hi (by omega),take_succ hg];unfold atL;rw[List.map_append];rfl
 ·try dsimp only
  unfold ii;rw[ê,List.take_length]
def acS {ρ:Type}:@nt ρ=@ii ρ:=rfl
def XS {ρ:Type} {x y:List Int} (hx:x.length≤1000) (hy:y.length≤1000) (K0:Int→Option ρ) (K1 K:Option ρ) (hK:∀j:Nat,K0 j=K) :
 Í (fun(v112:Int) kk114=>kE x (Ô x) y v112 (fun u113=>kk114 u113) K0 (fun _=>K1)) (0:Int)=if x.any (fun i=>y.contains i) then K else K1:=by
 refine gK x (fun i=>y.contains i) K0 K K1 hK (fun i a hi ha kn=>?_) (fun kn=>?_)
 ·try dsimp only
  unfold kE;rw[Ö hi,Ì ha,kf (by omega),À,Ñ hi (by omega)]
  cases y.contains a<;>rfl
 ·try dsimp only
  unfold kE;rw[ê]
def JK {B:Ü} (h:Wq B) {p q:List (Int×Int)} (hp:p.length≤3) (hq:q.length≤3):Ρ (B,J6 B) (atL B p) (atL B q)=some (KH B (atL B p) (atL B q))∧-60000000000000000≤KH B (atL B p) (atL B q)∧KH B (atL B p) (atL B q)≤60000000000000000:=by
 have hV:∀l:List (Int×Int),∀a∈atL B l,0≤a∧a<((Ë B).length+1:Nat):=fun l a ha=>by
  obtain⟨n,_,rfl⟩:=dX.1 ha;exact ċ B n
 have l1:(atL B p).length=p.length:=by simp[atL]
 have l2:(atL B q).length=q.length:=by simp[atL]
 refine⟨agd (Tw h) (by omega) (by omega) (hV p) (hV q),?_⟩;have:=KJ (Tw h) (hV q) (atL B p) (List.replicate (atL B q).length false) (hV p);rw[l1,l2] at this;unfold KH;rw[l2];have h1:((p.length:Int)+q.length)*9007199254740992≤6*9007199254740992:=Int.mul_le_mul_of_nonneg_right (by omega) (by omega);omega
def Wd {b:Ü} (hI:In b) (day:Int) {x y:List Int} (hx:x.length≤1000) (hy:y.length≤1000):Ę b day x y=some (Ŕ b day x y):=by
 unfold Ę F9 Ŕ;rw[Φ hI.size hI.num,À]
 by_cases hc:ß b=0
 case neg=>rw[Þ (bne_iff_ne.2 hc),if_pos hc]
 have hg:=(à b).1 hc;rw[Õ (by rw[hc]; rfl),if_neg (show ¬(ß b≠0) by simp[hc])];have px:=Qi (l:=x) (by omega) 3;have py:=Qi (l:=y) (by omega) 3
 have ex:(iR x&&decide ((x.length:Int)≤3))=(iR x&&decide (x.length≤3)):=by congr 1; exact decide_eq_decide.2 (by omega)
 have ey:(iR y&&decide ((y.length:Int)≤3))=(iR y&&decide (y.length≤3)):=by congr 1; exact decide_eq_decide.2 (by omega)
 rw[ex] at px;rw[ey] at py;rw[px,py,abm];simp only[À];refine(XS hx hy _ _ (some (((0,0):Int×Int),(1:Int))) (fun j=>?_)).trans ?_
 ·cases h1:(iR x&&decide (x.length≤3)) with
  |false=>rfl
  |true =>
   cases h2:(iR y&&decide (y.length≤3)) with
   |false=>rfl
   |true =>
    simp only[cF,decide_eq_true_eq] at h1 h2;rw[dI,ã,ã,á,á,Û (by omega) (by omega)]
    by_cases h3:x.length+y.length=0
    ·rw[Þ (show ieq ((x.length:Int)+y.length) 0=true from beq_iff_eq.2 (by omega))]
    ·rw[Õ (show ieq ((x.length:Int)+y.length) 0=false from beq_eq_false_iff_ne.2 (by omega)),Þ (show ige (j:Int) 0=true from decide_eq_true (by omega))]
 unfold argD
 cases h4:x.any (fun i=>y.contains i) with
 |true=>rw[if_pos rfl,if_pos (by simp)]
 |false =>
  rw[if_neg (by simp)]
  cases h1:(iR x&&decide (x.length≤3)) with
  |false=>rfl
  |true =>
   cases h2:(iR y&&decide (y.length≤3)) with
   |false=>rfl
   |true =>
    simp only[cF,decide_eq_true_eq] at h1 h2;rw[dI,ã,ã,á,á,Û (by omega) (by omega)]
    by_cases h3:x.length+y.length=0
    ·rw[Þ (show ieq ((x.length:Int)+y.length) 0=true from beq_iff_eq.2 (by omega)),if_pos (by simp[h3])]
    rw[Õ (show ieq ((x.length:Int)+y.length) 0=false from beq_eq_false_iff_ne.2 (by omega))]
    cases h5:S7 day with
    |false=>rw[gi,Ĥ,if_pos (by simp)]
    |true =>
     rw[dI,ã,if_neg (by rw[show decide (x.length+y.length≠0)=true from decide_eq_true h3]; simp)];rw[Ch (by simp) (by simp; omega),À,Ch (by simp) (by simp; omega),Ch (by simp) (by simp; omega)];rw[show([x,y]:List (List Int)).flatten=x++y by simp,show([x]:List (List Int)).flatten=x by simp,show([y]:List (List Int)).flatten=y by simp];simp only[acT];refine(abJ hI (ns:=onP day (x++y)) (by simp[onP]; omega) (E0:=fun e=>ifb (ine e (0:Int)) (some (((0,0):Int×Int),e)) (Â (some (onP day x)) fun _=>none)) (E1:=fun z=>ifb (ine z.1 (0:Int)) (some (((0,0):Int×Int),z.1)) (Â (some (onP day x)) fun _=>none)) (fun e=>some (((0,0):Int×Int),e)) (fun e he=>by rw[Þ (by simp[ine,he])]) (fun z he=>by rw[Þ (by simp[ine,he])]) (fun _ _ _=>rfl)).trans ?_
     split
     ·rfl
     ·rename_i e;have hr:=(Λ hI (by simpa using e)).1;have hf:=hg.film;dsimp only;generalize (Č b (onP day (x++y))).1=B at hr ⊢;rw[À,uJ,show((((Ë B).length:Int)+1,Ý B):Sys)=J6 B from rfl];refine(adv hr.good hr.num _ (by simp[onP]; omega) _).trans ?_;rw[À];simp only[acS];refine(adv hr.good hr.num _ (by simp[onP]; omega) _).trans ?_;obtain⟨m1,m2,m3⟩:=JK hr (p:=onP day x) (q:=onP day y) (by simp[onP]; omega) (by simp[onP]; omega);obtain⟨m4,m5,m6⟩:=JK hr (p:=onP day y) (q:=onP day x) (by simp[onP]; omega) (by simp[onP]; omega)
      have hm:∀k z:Int,0≤k→k≤3→0≤z→z≤1000000→0≤k*z∧k*z≤10000000:=by
       intro k z k0 k1 h0 h1;have:k*z≤3*1000000:=eG k1 h1 h0 (by omega);exact⟨fh k0 h0,by omega⟩
      have a1:=hm (max 0 ((x.length:Int)-1)) b.1.1 (by omega) (by omega) (by omega) (by omega);have a2:=hm (max 0 ((x.length:Int)-1)) b.1.2 (by omega) (by omega) (by omega) (by omega);have a3:=hm (max 0 ((y.length:Int)-1)) b.1.1 (by omega) (by omega) (by omega) (by omega);have a4:=hm (max 0 ((y.length:Int)-1)) b.1.2 (by omega) (by omega) (by omega) (by omega);rw[Û (by omega) (by omega),Û (by omega) (by omega)];simp only[GP];rw[Û (by omega) (by omega),Û (by omega) (by omega),Û (by omega) (by omega),m4,À,Û (by omega) (by omega),Û (by omega) (by omega),Û (by omega) (by omega),Û (by omega) (by omega),m1,À,Û (by omega) (by omega)];rfl
section
variable {D:Int→Int→Int} {V:Int→Prop}
inductive Mt (D:Int→Int→Int):List Int→List Int→Int→Prop
 |nil:Mt D [] [] 0
 |cons {a:Int} {f t r:List Int} {x s:Int}:t.Perm (x::r)→Mt D f r s→Mt D (a::f) t (D a x+s)
def Mt.to {f t t':List Int} {s:Int} (h:Mt D f t s) (p:t.Perm t'):Mt D f t' s:=by
 cases h with
 |nil=>rw[List.nil_perm.1 p]; exact .nil
 |cons q h=>exact .cons (p.symm.trans q) h
def Mt.from' {f f':List Int} (p:f.Perm f'):∀{t:List Int} {s:Int},Mt D f t s→Mt D f' t s:=by
 induction p with
 |nil=>exact fun h=>h
 |cons a p ih =>
  intro t s h
  cases h with
  |cons q h=>exact .cons q (ih h)
 |swap a b f =>
  intro t s h
  cases h with
  | @cons _ _ _ r x s q h =>
   cases h with
   | @cons _ _ _ r' y s' q' h =>
    have:D b x+(D a y+s')=D a y+(D b x+s'):=by omega
    rw[this];exact .cons ((q.trans (q'.cons x)).trans (List.Perm.swap y x r')) (.cons (fi _) h)
 |trans _ _ ih1 ih2=>exact fun h=>ih2 (ih1 h)
def Mt.head {f T:List Int} {s:Int} (h:Mt D f T s):∀{t:Int} {r:List Int},T.Perm (t::r)→∃a g s',f.Perm (a::g)∧Mt D g r s'∧s=D a t+s':=by
 induction h with
 |nil=>intro t r p; exact absurd p.length_eq (by simp)
 | @cons a f T r0 x s q h ih =>
  intro t r p;have p2:(x::r0).Perm (t::r):=q.symm.trans p
  by_cases hx:x=t
  ·subst hx;exact⟨a,f,s,fi _,h.to p2.cons_inv,rfl⟩
  ·have hm:t∈r0:=by
    have:t∈x::r0:=p2.symm.subset (by simp);rcases cJ.1 this with e|e
    ·exact absurd e.symm hx
    ·exact e
   have p3:r0.Perm (t::r0.erase t):=List.perm_cons_erase hm;obtain⟨b,g,s',h1,h2,h3⟩:=ih p3;have p4:(t::x::r0.erase t).Perm (t::r):=((List.Perm.swap x t _).trans (p3.symm.cons x)).trans p2;exact⟨b,a::g,D a x+s',(h1.cons a).trans (List.Perm.swap b a g),.cons p4.cons_inv.symm h2,by omega⟩
def Mt.zero (tri:∀c x,V c→V x→D c x≤D c 0+D 0 x) (z:D 0 0=0) {f t:List Int} {s:Int} (hf:∀a∈f,V a) (ht:∀b∈t,V b) (h:Mt D (0::f) (0::t) s):∃s',s'≤s∧Mt D f t s':=by
 cases h with
 | @cons _ _ _ r x s q h =>
  by_cases hx:x=0
  ·subst hx;exact⟨s,by omega,h.to q.cons_inv.symm⟩
  ·have hm:x∈t:=by
    have:x∈0::t:=q.symm.subset (by simp);rcases cJ.1 this with e|e
    ·exact absurd e hx
    ·exact e
   have p:t.Perm (x::t.erase x):=List.perm_cons_erase hm;have p2:(x::r).Perm (x::0::t.erase x):=(q.symm.trans (p.cons 0)).trans (List.Perm.swap x 0 _);obtain⟨c,g,s',h1,h2,h3⟩:=h.head p2.cons_inv;have:=tri c x (hf c (h1.symm.subset (by simp))) (ht x hm);exact⟨D c x+s',by omega,Mt.from' h1.symm (.cons p h2)⟩
def unl:List Int→List Bool→List Int
 |n::y,b::u=>if b then unl y u else n::unl y u
 |_,_=>[]
def aa5:∀{y:List Int} {u:List Bool} {i:Nat} {c:Int},y[i]?=some c→u[i]?=some false→(unl y u).Perm (c::unl y (u.set i true))
 |[],_,_,_,h,_=>by simp at h
 |_::_,[],_,_,_,h=>by simp at h
 |n::y,b::u,0,c,h1,h2=>by
  simp at h1 h2;subst h1 h2;simp[unl]
 |n::y,b::u,i+1,c,h1,h2=>by
  have ih:=aa5 (y:=y) (u:=u) (i:=i) (c:=c) (by simpa using h1) (by simpa using h2);simp only[unl,List.set_cons_succ]
  cases b with
  |true=>rw[if_pos rfl,if_pos rfl]; exact ih
  |false=>rw[if_neg (by simp),if_neg (by simp)]; exact(ih.cons n).trans (List.Perm.swap c n _)
def Qc:∀{y:List Int} {u:List Bool} {c:Int},c∈unl y u→∃i:Nat,y[i]?=some c∧u[i]?=some false
 |[],u,c,h=>by cases u<;>simp[unl] at h
 |_::_,[],c,h=>by simp[unl] at h
 |n::y,b::u,c,h=>by
  simp only[unl] at h
  cases b with
  |true =>
   rw[if_pos rfl] at h;obtain⟨i,h1,h2⟩:=Qc h;exact⟨i+1,by simpa using h1,by simpa using h2⟩
  |false =>
   rw[if_neg (by simp)] at h;rcases cJ.1 h with rfl|h
   ·exact⟨0,by simp,by simp⟩
   ·obtain⟨i,h1,h2⟩:=Qc h;exact⟨i+1,by simpa using h1,by simpa using h2⟩
def aa6:∀y:List Int,unl y (List.replicate y.length false)=y
 |[]=>rfl
 |n::y=>by simp[f0,unl,aa6 y]
abbrev zs (n:Nat):List Int:=List.replicate n 0
def abx:∀(y:List Int) (u:List Bool),Mt D (unl y u) (zs (unl y u).length) (qG (fun a b=>D b a) y u)
 |[],u=>by cases u<;>exact .nil
 |_::_,[]=>.nil
 |n::y,b::u=>by
  have ih:=abx y u;simp only[unl,qG]
  cases b with
  |true=>simpa using ih
  |false =>
   rw[if_neg (by simp),if_neg (by simp)];exact .cons (fi _) ih
def afq:∀{f:List Int} {s s':Int},Mt D f (zs f.length) s→Mt D f (zs f.length) s'→s=s'
 |[],s,s',h,h'=>by cases h; cases h'; rfl
 |a::f,s,s',h,h'=>by
  cases h with
  | @cons _ _ _ r x s q h =>
   cases h' with
   | @cons _ _ _ r' x' s' q' h' =>
    have e1:(x::r)=zs (f.length+1):=List.perm_replicate.1 q.symm;have e2:(x'::r')=zs (f.length+1):=List.perm_replicate.1 q'.symm;rw[show zs (f.length+1)=0::zs f.length from rfl] at e1 e2
    injection e1 with e1 e3
    injection e2 with e2 e4
    subst e1 e2 e3 e4;rw[afq h h']
def foldm (g:Nat→Int) (p:Nat→Bool):∀(l:List Nat) (v:Int),l.foldl (fun v i=>if p i then v else min v (g i)) v≤v∧(∀i∈l,p i=false→l.foldl (fun v i=>if p i then v else min v (g i)) v≤g i)∧(l.foldl (fun v i=>if p i then v else min v (g i)) v=v∨∃i∈l,p i=false∧l.foldl (fun v i=>if p i then v else min v (g i)) v=g i)
 |[],v=>⟨dM _,fun i h=>by simp at h,.inl rfl⟩
 |k::l,v=>by
  obtain⟨h1,h2,h3⟩:=foldm g p l (if p k then v else min v (g k));rw[fj];refine⟨?_,fun i hi hp=>?_,?_⟩
  ·cases hk:p k with
   |true=>rw[hk] at h1; simp only[if_true] at h1 ⊢; exact h1
   |false=>rw[hk] at h1; simp only[cR,if_false] at h1 ⊢; omega
  ·rcases cJ.1 hi with rfl|hi
   ·rw[hp] at h1;rw[hp];simp only[cR,if_false] at h1 ⊢;omega
   ·exact h2 i hi hp
  ·rcases h3 with h3|⟨i,hi,hp,h3⟩
   ·cases hk:p k with
    |true=>rw[hk,if_pos rfl] at h3; left; rw[if_pos rfl]; exact h3
    |false =>
     rw[hk] at h3;simp only[cR,if_false] at h3 ⊢
     by_cases hv:v≤g k
     ·left; omega
     ·right; exact⟨k,by simp,hk,by omega⟩
   ·right; exact⟨i,dK _ hi,hp,h3⟩
def abX (tri:∀c x,V c→V x→D c x≤D c 0+D 0 x) (z:D 0 0=0) (v0:V 0) {y:List Int} (hy:∀b∈y,V b):∀(x:List Int) (u:List Bool),(∀a∈x,V a) →
 Mt D (unl y u++zs x.length) (x++zs (unl y u).length) (ŋ (fun a b=>D b a) x y u)∧∀s,Mt D (unl y u++zs x.length) (x++zs (unl y u).length) s→ŋ (fun a b=>D b a) x y u≤s
 |[],u,_=>by
  have h:=abx (D:=D) y u;rw[show unl y u++zs ([]:List Int).length=unl y u by simp,fq];exact⟨h,fun s hs=>Int.le_of_eq (afq h hs)⟩
 |a::x,u,hx=>by
  have hx':∀b∈x,V b:=fun b hb=>hx b (dK _ hb);have ih:=fun u=>abX tri z v0 hy x u hx'
  have hz:∀(l:List Int) (n:Nat),(∀b∈l,V b)→∀b∈l++zs n,V b:=fun l n hl b hb=>by
   rcases cI.1 hb with hb|hb
   ·exact hl b hb
   ·rw[gh hb]; exact v0
  have hu':∀u:List Bool,∀b∈unl y u,V b:=fun u b hb=>by
   obtain⟨i,h,_⟩:=Qc hb;exact hy b (cM h)
  have e:ŋ (fun a b=>D b a) (a::x) y u=(List.range y.length).foldl (fun v i=>if u[i]?.getD true then v else min v (D (y[i]?.getD 0) a+ŋ (fun a b=>D b a) x y (u.set i true))) (D 0 a+ŋ (fun a b=>D b a) x y u):=rfl;obtain⟨f1,f2,f3⟩:=foldm (fun i=>D (y[i]?.getD 0) a+ŋ (fun a b=>D b a) x y (u.set i true)) (fun i=>u[i]?.getD true) (List.range y.length) (D 0 a+ŋ (fun a b=>D b a) x y u);rw[←e] at f1 f2 f3
  -- a zero takes a
  have pz:(unl y u++zs (a::x).length).Perm (0::(unl y u++zs x.length)):=List.perm_middle
  -- one of the other side takes a
  have pc:∀(i:Nat) (c:Int),y[i]?=some c→u[i]?=some false→(unl y u++zs (a::x).length).Perm (c::0::(unl y (u.set i true)++zs x.length))∧(x++zs (unl y u).length).Perm (0::(x++zs (unl y (u.set i true)).length)):=fun i c h1 h2=>by
   have p:=aa5 h1 h2
   have hl:(unl y u).length=(unl y (u.set i true)).length+1:=by rw[p.length_eq]; rfl
   refine⟨((p.append_right _).trans ?_),?_⟩
   ·exact(show(unl y (u.set i true)++zs (a::x).length).Perm (0::(unl y (u.set i true)++zs x.length)) from List.perm_middle).cons c
   ·rw[hl]; exact List.perm_middle
  constructor
  ·rcases f3 with f3|⟨i,hi,hp,f3⟩
   ·rw[f3];refine Mt.from' pz.symm ?_;exact Mt.cons (fi _) (ih u).1
   ·have hi:=List.mem_range.1 hi;have hyi:y[i]?=some y[i]:=cD hi
    have hu:u[i]?=some false:=by
     cases hu:u[i]? with
     |none=>rw[hu] at hp; cases hp
     |some b=>rw[hu] at hp; exact congrArg some hp
    obtain⟨p1,p2⟩:=pc i y[i] hyi hu;rw[f3,hyi];refine Mt.from' p1.symm ?_;refine Mt.cons (fi _) ?_;have h0:=(ih (u.set i true)).1;have:=Mt.cons (D:=D) (a:=0) (x:=0) p2 h0;rw[z,Int.zero_add] at this;exact this
  ·intro s hs;obtain⟨c,g,s',h1,h2,h3⟩:=hs.head (fi _);have hc:c∈unl y u++zs (a::x).length:=h1.symm.subset (by simp);rcases cI.1 hc with hc|hc
   ·obtain⟨i,hyi,hu⟩:=Qc hc;obtain⟨p1,p2⟩:=pc i c hyi hu;have p3:(0::(unl y (u.set i true)++zs x.length)).Perm g:=(p1.symm.trans h1).cons_inv;obtain⟨s'',h4,h5⟩:=Mt.zero tri z (hz _ _ (hu' _)) (hz _ _ hx') ((Mt.from' p3.symm h2).to p2);have h6:=(ih (u.set i true)).2 s'' h5;have h7:=f2 i (List.mem_range.2 (cH.1 hyi).1) (by rw[hu]; rfl);rw[hyi] at h7;simp only[fI] at h7;omega
   ·have:c=0:=gh hc;subst this;have p3:=(pz.symm.trans h1).cons_inv;have h6:=(ih u).2 s' (Mt.from' p3.symm h2);omega
end
def Ph (x y:Int) (g:Bool):∀m:List (Int×Bool),rI (k:=tI) (v:=.bool) x (JJ (k:=tI) (v:=.bool) y g m)=if x=y then some g else rI (k:=tI) (v:=.bool) x m
 |[]=>by
  unfold JJ rI jQ rI
  by_cases h:x=y<;>simp[h]
 |e::m=>by
  unfold JJ
  by_cases h:y=e.1
  ·have:jQ tI y e.1=true:=by simp[jQ,h]
   rw[this]
   try dsimp only
   unfold rI jQ
   by_cases h2:x=y
   ·simp[h2]
   ·have:¬x=e.1:=fun h3=>h2 (h3.trans h.symm);simp[h2,this]
  ·have:jQ tI y e.1=false:=by simp[jQ,h]
   rw[this]
   try dsimp only
   have ih:=Ph x y g m;unfold rI
   by_cases h2:x=e.1
   ·have:jQ tI x e.1=true:=by simp[jQ,h2]
    rw[this];have:¬x=y:=fun h3=>h (h3.symm.trans h2);simp[this]
   ·have:jQ tI x e.1=false:=by simp[jQ,h2]
    rw[this];exact ih
def Nl (l:List Int):List (Int×Bool):=l.foldl (fun m x=>JJ (k:=tI) (v:=.bool) x true m) []
def wd (l:List Int) (x:Int):Nl (l++[x])=JJ (k:=tI) (v:=.bool) x true (Nl l):=by unfold Nl; rw[List.foldl_append]; rfl
def T9 (x:Int):∀(l:List Int) (m:List (Int×Bool)),rI (k:=tI) (v:=.bool) x (l.foldl (fun m x=>JJ (k:=tI) (v:=.bool) x true m) m)=if l.contains x then some true else rI (k:=tI) (v:=.bool) x m
 |[],m=>by simp
 |y::l,m=>by
  rw[fj,T9 x l,Ph]
  by_cases h:x=y
  ·subst h; simp
  ·simp[h]
def T7 (l:List Int) (x:Int):rI (k:=tI) (v:=.bool) x (Nl l)=if l.contains x then some true else none:=T9 x l []
def Cf (b:Ü) (s:Int×Int):List Int:=if s.1=3 then(match b.2.2.2.2.1[s.2.toNat]? with|some c=>c.2.2.1++c.2.2.2.1|none=>[]) else(match b.2.1[s.2.toNat]? with|some g=>[g.1]|none=>[])
def MN (b:Ü) (ss looks:List (Int×Int)):List Int:=ss.flatMap (Cf b)++looks.map fun n=>n.1
def Fl (ss:List (Int×Int)):List Int:=(ss.filter fun s=>s.1==3).map fun s=>s.2
def BU (w:List Int):Nat→List Cmp→List Cmp
 |_,[]=>[]
 |i,c::t=>if w.contains (i:Int) then c::BU w (i+1) t else BU w (i+1) t
def cutP (b:Ü) (ss looks:List (Int×Int)):Ü :=
 (b.1,b.2.1.filter fun g=>(MN b ss looks).contains g.1,b.2.2.1.filter fun u=>(MN b ss looks).contains u.1,b.2.2.2.1.filter fun l=>(MN b ss looks).contains l.1,BU (Fl ss) 0 b.2.2.2.2.1,looks)
def agP (b:Ü) (s:Int×Int):Prop:=((s.1=1∨s.1=2)∧0≤s.2∧s.2<b.2.1.length)∨(s.1=3∧0≤s.2∧s.2<b.2.2.2.2.1.length)
def PI (w:List Int) (c:Cmp):∀(l:List Cmp) (i:Nat),BU w i (l++[c])=BU w i l++if w.contains ((i+l.length:Nat):Int) then[c] else[]
 |[],i=>by simp only[fq,BU,dn,fk]
 |a::l,i=>by
  have e:((i+1+l.length:Nat):Int)=((i+(l.length+1):Nat):Int):=by congr 1; omega
  simp only[d8,BU,PI w c l (i+1),cN,e]
  split<;>rfl
def Mh (w:List Int):∀(l:List Cmp) (i:Nat),(BU w i l).length≤l.length
 |[],i=>by simp[BU]
 |a::l,i=>by
  have:=Mh w l (i+1);simp only[BU]
  split<;>simp only[cN]<;>omega
def xC {ρ:Type} (x:Int) (l:List Int) (f:Bool→Option ρ) (g:Option ρ):S6 (k:=tI) (v:=.bool) x (Nl l) f g=if l.contains x then f true else g:=by
 unfold S6;rw[T7]
 by_cases h:l.contains x=true
 ·rw[if_pos h,if_pos h]
 ·rw[if_neg h,if_neg h]
section
variable {ρ:Type}
def cut_L3 (l:List (Int×Int)) (hl:l.length≤1000) (ids:List Int) (K:List (Int×Int)→Option ρ):Í (fun(v47:(Val (.pair tI (.slice Ã)))) kk50=>sg l (Ô l) (Nl ids) v47.1 v47.2 (fun u48 u49=>kk50 (u48,u49)) K) ((0:Int),[])=K (l.filter fun u=>ids.contains u.1):=by
 refine Ą l (fun i=>(l.take i).filter fun u=>ids.contains u.1) _ rfl (fun i a hi ha kn=>?_) (fun kn=>?_)
 ·try dsimp only
  unfold sg;have h1:=oX (fun u:Int×Int=>ids.contains u.1) l i;rw[Ö hi,Ì ha,xC,take_succ ha,List.filter_append]
  by_cases h:ids.contains a.1=true
  ·rw[if_pos h,Ĥ,ģ (Ø (by simp only[dm]; omega)),Ñ hi (by omega)];simp only[dN,dU,h,if_pos]
  ·rw[if_neg h,Ñ hi (by omega)];simp only[dN,dU,h,if_neg,cR,not_false_eq_true,dE]
 ·try dsimp only
  unfold sg;rw[ê,List.take_length]
def cut_L4 (l:List JZ) (hl:l.length≤1000) (ids:List Int) (K:List JZ→Option ρ):Í (fun(v47:(Val (.pair tI (.slice Ł)))) kk50=>sf l (Ô l) (Nl ids) v47.1 v47.2 (fun u48 u49=>kk50 (u48,u49)) K) ((0:Int),[])=K (l.filter fun u=>ids.contains u.1):=by
 refine Ą l (fun i=>(l.take i).filter fun u=>ids.contains u.1) _ rfl (fun i a hi ha kn=>?_) (fun kn=>?_)
 ·try dsimp only
  unfold sf;have h1:=oX (fun u:JZ=>ids.contains u.1) l i;rw[Ö hi,Ì ha,xC,take_succ ha,List.filter_append]
  by_cases h:ids.contains a.1=true
  ·rw[if_pos h,Ĥ,ģ (Ø (by simp only[dm]; omega)),Ñ hi (by omega)];simp only[dN,dU,h,if_pos]
  ·rw[if_neg h,Ñ hi (by omega)];simp only[dN,dU,h,if_neg,cR,not_false_eq_true,dE]
 ·try dsimp only
  unfold sf;rw[ê,List.take_length]
def cut_L5 (l:List Cmp) (hl:l.length≤1000) (hp:∀c∈l,c.2.2.1.length≤1000∧c.2.2.2.1.length≤1000) (w:List Int) (K:List Cmp→Option ρ):Í (fun(v47:(Val (.pair tI (.slice Î)))) kk50=>se l (Ô l) (Nl w) v47.1 v47.2 (fun u48 u49=>kk50 (u48,u49)) K) ((0:Int),[])=K (BU w 0 l):=by
 refine Ą l (fun i=>BU w 0 (l.take i)) _ rfl (fun i a hi ha kn=>?_) (fun kn=>?_)
 ·try dsimp only
  unfold se;have h1:=Mh w (l.take i) 0;have h2:=hp a (List.mem_of_getElem? ha)
  have e:(l.take i).length=i:=by rw[cW]; omega
  rw[Ö hi,Ì ha,xC,take_succ ha,PI,e,dk]
  by_cases h:w.contains (i:Int)=true
  ·rw[if_pos h,if_pos h,Ĥ,ģ (Ø (by omega)),ģ (Ø (by omega)),ģ (Ø (by simp only[dm]; omega)),Ñ hi (by omega)]
  ·rw[if_neg h,if_neg h,Ñ hi (by omega)];simp only[dE]
 ·try dsimp only
  unfold se;rw[ê,List.take_length]
def cut_L2 (looks:List (Int×Int)) (hl:looks.length≤1000) (ids:List Int) (K:List (Int×Bool)→Option ρ):Í (fun(v51:(Val (.pair tI (.map tI .bool)))) kk54=>sh looks (Ô looks) v51.1 v51.2 (fun u52 u53=>kk54 (u52,u53)) K) ((0:Int),Nl ids)=K (Nl (ids++looks.map fun n=>n.1)):=by
 refine Ą looks (fun i=>Nl (ids++(looks.take i).map fun n=>n.1)) _ (by simp) (fun i a hi ha kn=>?_) (fun kn=>?_)
 ·try dsimp only
  unfold sh;rw[Ö hi,Ì ha,Ñ hi (by omega),take_succ ha,List.map_append,←List.append_assoc,List.map_singleton,wd]
 ·try dsimp only
  unfold sh;rw[ê,List.take_length]
def cut_L1 (xs:List Int) (hl:xs.length≤10000) (ids:List Int) (K:List (Int×Bool)→Option ρ):Í (fun(v13:(Val (.pair tI (.map tI .bool)))) kk16=>si xs (Ô xs) v13.1 v13.2 (fun u14 u15=>kk16 (u14,u15)) K) ((0:Int),Nl ids)=K (Nl (ids++xs)):=by
 refine Ą xs (fun i=>Nl (ids++xs.take i)) _ (by simp) (fun i a hi ha kn=>?_) (fun kn=>?_)
 ·try dsimp only
  unfold si;rw[Ö hi,Ì ha,Ñ hi (by omega),take_succ ha,←List.append_assoc,wd]
 ·try dsimp only
  unfold si;rw[ê,List.take_length]
end
def lU {ρ α:Type} {l:List α} {i:Int} (h0:0≤i) {a:α} (h:l[i.toNat]?=some a) (f:α→Option ρ):û l i f=f a:=by
 obtain⟨n,rfl⟩:=fN h0;exact Ì (by simpa using h) f
def cut_ok {b:Ü} (hs:ke b) {ss looks:List (Int×Int)} (h1:ss.length≤1000) (h2:looks.length≤1000) (hv:∀s∈ss,agP b s):MA b ss looks=some (cutP b ss looks):=by
 have g1:=hs.gauges; have g2:=hs.uses; have g3:=hs.loans; have g4:=hs.compares; have g5:=hs.looks;unfold MA ab5 Dv;refine Ą ss (fun i=>(Nl ((ss.take i).flatMap (Cf b)),Nl (Fl (ss.take i)))) _ rfl (fun i s hi ha kn=>?_) (fun kn=>?_)
 ·try dsimp only
  unfold yi;have hok:=hv s (List.mem_of_getElem? ha);rw[Ö hi,Ì ha,take_succ ha,List.flatMap_append]
  have e3:Fl (ss.take i++[s])=Fl (ss.take i)++if s.1=3 then[s.2] else[]:=by
   unfold Fl;rw[List.filter_append,List.map_append];congr 1
   by_cases h:s.1=3<;>simp[h]
  rw[e3];rcases hok with⟨hk,h0,h3⟩|⟨hk,h0,h3⟩
  ·have hg:b.2.1[s.2.toNat]?=some b.2.1[s.2.toNat]:=cD (by omega);generalize b.2.1[s.2.toNat]=g at hg
   have e1:Cf b s=[g.1]:=by
    unfold Cf;rw[if_neg (by omega),hg]
   have e2:List.flatMap (Cf b) [s]=[g.1]:=by simp[e1]
   rw[Õ (decide_eq_false (by omega)),if_neg (by omega),dE,e2,wd];rcases hk with hk|hk
   ·rw[Þ (decide_eq_true hk),lU h0 hg,Ñ hi (by omega)]
   ·rw[Õ (decide_eq_false (by omega)),Þ (decide_eq_true hk),lU h0 hg,Ñ hi (by omega)]
  ·have hc:b.2.2.2.2.1[s.2.toNat]?=some b.2.2.2.2.1[s.2.toNat]:=cD (by omega);have hp:=hs.piles b.2.2.2.2.1[s.2.toNat] (dP _);generalize b.2.2.2.2.1[s.2.toNat]=c at hc hp
   have e1:Cf b s=c.2.2.1++c.2.2.2.1:=by
    unfold Cf;rw[if_pos hk,hc]
   have e2:List.flatMap (Cf b) [s]=c.2.2.1++c.2.2.2.1:=by simp[e1]
   rw[Õ (decide_eq_false (by omega)),Õ (decide_eq_false (by omega)),Õ (decide_eq_false (by omega)),ģ (decide_eq_true hk),if_pos hk,e2,lU h0 hc,lU h0 hc,n0 (by simp) (by simp; omega),À];rw[show([c.2.2.1,c.2.2.2.1]:List (List Int)).flatten=c.2.2.1++c.2.2.2.1 by simp];refine(cut_L1 (c.2.2.1++c.2.2.2.1) (by simp; omega) _ _).trans ?_;rw[wd,Ñ hi (by omega)]
 ·try dsimp only
  unfold yi;rw[ê];dsimp only;rw[List.take_length];refine(cut_L2 looks h2 _ _).trans ?_;rw[show(ss.flatMap (Cf b)++looks.map fun n=>n.1)=MN b ss looks from rfl];unfold yr
  try dsimp only
  rw[ģ (Ø (by omega)),À]
  have ek:(List.filter (fun g=>(rI (k:=tI) (v:=.bool) g.1 (Nl (MN b ss looks))).getD false) b.2.1)=b.2.1.filter fun g=>(MN b ss looks).contains g.1:=by
   refine List.filter_congr fun g _=>?_;rw[T7]
   cases(MN b ss looks).contains g.1<;>rfl
  rw[ek];unfold mw;dsimp only;refine(cut_L3 b.2.2.1 g2 _ _).trans ?_;refine(cut_L4 b.2.2.2.1 g3 _ _).trans ?_;refine(cut_L5 b.2.2.2.2.1 g4 hs.piles _ _).trans ?_;rfl
def abp {α:Type} [DecidableEq α] {l m:List α} (hl:l.length=m.length) (h:Α (fun i a=>if m[i]?=some a then none else some false) 0 l=none):l=m:=by
 have:=lV.1 h;refine List.ext_getElem hl fun i h1 h2=>?_;have h3:=this i l[i] (cD h1);rw[dk] at h3
 split at h3
 ·rename_i h4;rw[cD h2] at h4;exact(Option.some.inj h4).symm
 ·cases h3
def abo {α:Type} [DecidableEq α] {l m:List α} {b:Bool} (h:Α (fun i a=>if m[i]?=some a then none else some false) 0 l=some b):b=false∧l≠m:=by
 constructor
 ·have:∀(k:Nat) (x:List α) (b:Bool),Α (fun i a=>if m[i]?=some a then none else some false) k x=some b→b=false:=by
   intro k x
   induction x generalizing k with
   |nil=>intro b h; cases h
   |cons a t ih =>
    intro b h;unfold Α at h
    split at h
    ·rename_i c hc
     split at hc
     ·cases hc
     ·cases hc; cases h; rfl
    ·exact ih _ _ h
  exact this _ _ _ h
 ·intro e;subst e;rw[lV.2 fun j a ha=>by rw[dk,if_pos ha]] at h;cases h
instance dec1:DecidableEq ((Int×Int)×Int):=fun a b=>instDecidableEqProd a b
instance dec2:DecidableEq ((Int×Int)×((Int×Int)×Int)):=fun a b=>instDecidableEqProd a b
instance dec3:DecidableEq (Int×(Int×Int)×((Int×Int)×Int)):=fun a b=>instDecidableEqProd a b
instance dec4:DecidableEq (Int×Int×(Int×Int)×((Int×Int)×Int)):=fun a b=>instDecidableEqProd a b
instance decG:DecidableEq ù:=fun a b=>instDecidableEqProd a b
instance decL:DecidableEq JZ:=fun a b=>instDecidableEqProd a b
instance decI4:DecidableEq (Int×(Int×(Int×Int))):=fun a b=>instDecidableEqProd a b
instance decI5:DecidableEq (List Int×Int×(Int×(Int×Int))):=fun a b=>instDecidableEqProd a b
instance decI6:DecidableEq (List Int×List Int×Int×(Int×(Int×Int))):=fun a b=>instDecidableEqProd a b
instance decI7:DecidableEq (Int×List Int×List Int×Int×(Int×(Int×Int))):=fun a b=>instDecidableEqProd a b
instance decC:DecidableEq Cmp:=fun a b=>instDecidableEqProd a b
def QO {α:Type} [DecidableEq α] (x:α) (l:List α):Bool:=l.any fun a=>decide (x=a)
def YR {α:Type} [DecidableEq α] {x:α} {l:List α}:QO x l=true↔x∈l:=by
 unfold QO;rw[List.any_eq_true];exact⟨fun⟨a,h1,h2⟩=>by rw[of_decide_eq_true h2]; exact h1,fun h=>⟨x,h,decide_eq_true rfl⟩⟩
def WV {α:Type} [DecidableEq α] (l:List α) (x:α):ige (match l.findIdx? (fun a=>decide (x=a)) with|some j=>(j:Int)|none=>-1) 0=QO x l:=by
 cases h:l.findIdx? (fun a=>decide (x=a)) with
 |none =>
  have:QO x l=false:=by
   cases hm:QO x l with
   |false=>rfl
   |true=>have:=ee.1 h x (YR.1 hm); simp at this
  rw[this];rfl
 |some j =>
  obtain⟨hj,hp,_⟩:=dG.1 h
  have:x∈l:=by rw[of_decide_eq_true hp]; exact dP _
  rw[YR.2 this];exact decide_eq_true (by dsimp only; omega)
def ab0 {ρ:Type} (o:Option Nat) (f:Int→Option ρ):(match o with|some j=>f (j:Int)|none=>f (-1))=f (match o with|some j=>(j:Int)|none=>-1):=by cases o<;>rfl
def We {l:List (Int×Int)} (hl:l.length≤1000000) (x:Int×Int):Ė l x=some (QO x l):=by
 unfold Ė Ť ζ Ω
 have e:Í (fun(v5:Int) kk7=>Ĕ l (Ô l) x.1 x.2 v5 (fun u6=>kk7 u6) (fun z3=>some z3) (fun _=>some (-1:Int))) (0:Int)=some (match l.findIdx? (fun a=>decide (x=a)) with|some j=>(j:Int)|none=>-1):=by
  refine(iX l (fun a=>decide (x=a)) (fun z=>some z) (some (-1)) (fun i a hi ha kn=>?_) (fun kn=>?_)).trans (ab0 _ some)
  ·try dsimp only
   unfold Ĕ
   have e:((ĩ x.1 a.1)&&((ĩ x.2 a.2)&&true))=decide (x=a):=by
    rw[eZ]; simp[ĩ,gF]
   rw[Ö hi,Ì ha,Ñ hi (by omega),Ĵ,e]
  ·try dsimp only
   unfold Ĕ;rw[ê]
 rw[e,À];exact congrArg some (WV l x)
def SY {l:List JZ} (hl:l.length≤1000000) (x:JZ):Ĉ l x=some (QO x l):=by
 unfold Ĉ ő Ŵ Ų
 have e:Í (fun(v5:Int) kk7=>ć l (Ô l) x.1 x.2.1.1 x.2.1.2 x.2.2 v5 (fun u6=>kk7 u6) (fun z3=>some z3) (fun _=>some (-1:Int))) (0:Int)=some (match l.findIdx? (fun a=>decide (x=a)) with|some j=>(j:Int)|none=>-1):=by
  refine(iX l (fun a=>decide (x=a)) (fun z=>some z) (some (-1)) (fun i a hi ha kn=>?_) (fun kn=>?_)).trans (ab0 _ some)
  ·try dsimp only
   unfold ć
   have e:((ĩ x.1 a.1)&&((ĩ x.2.1.1 a.2.1.1)&&((ĩ x.2.1.2 a.2.1.2)&&((ĩ x.2.2 a.2.2)&&true))))=decide (x=a):=by
    rw[eZ]; simp[ĩ,gF,and_assoc]
   rw[Ö hi,Ì ha,Ñ hi (by omega),Ĵ,e]
  ·try dsimp only
   unfold ć;rw[ê]
 rw[e,À];exact congrArg some (WV l x)
def Wf {l:List ù} (hl:l.length≤1000000) (x:ù):Ě l x=some (QO x l):=by
 unfold Ě ļ Š ş
 have e:Í (fun(v5:Int) kk7=>ÿ l (Ô l) x.1 x.2.1 x.2.2.1 x.2.2.2.1.1 x.2.2.2.1.2 x.2.2.2.2.1.1 x.2.2.2.2.1.2 x.2.2.2.2.2 v5 (fun u6=>kk7 u6) (fun z3=>some z3) (fun _=>some (-1:Int))) (0:Int)=some (match l.findIdx? (fun a=>decide (x=a)) with|some j=>(j:Int)|none=>-1):=by
  refine(iX l (fun a=>decide (x=a)) (fun z=>some z) (some (-1)) (fun i a hi ha kn=>?_) (fun kn=>?_)).trans (ab0 _ some)
  ·try dsimp only
   unfold ÿ
   have e:((ĩ x.1 a.1)&&((ĩ x.2.1 a.2.1)&&((ĩ x.2.2.1 a.2.2.1)&&((ĩ x.2.2.2.1.1 a.2.2.2.1.1)&&((ĩ x.2.2.2.1.2 a.2.2.2.1.2)&&((ĩ x.2.2.2.2.1.1 a.2.2.2.2.1.1)&&((ĩ x.2.2.2.2.1.2 a.2.2.2.2.1.2)&&((ĩ x.2.2.2.2.2 a.2.2.2.2.2)&&true))))))))=decide (x=a):=by
    rw[eZ]; simp[ĩ,gF,and_assoc]
   rw[Ö hi,Ì ha,Ñ hi (by omega),Ĵ,e]
  ·try dsimp only
   unfold ÿ;rw[ê]
 rw[e,À];exact congrArg some (WV l x)
def acv (b:Ü):List Int:=b.2.1.map fun g=>g.1
def lm {α:Type} [DecidableEq α] (x y:List α) (w:α→Bool):Bool:=x.all fun a=>!w a||QO a y
def aeg (s b:Ü):Bool :=
 lm s.2.2.2.2.1 b.2.2.2.2.1 (fun _=>true)&&(decide (s.1=b.1)&&(lm s.2.1 b.2.1 (fun _=>true)&&(lm s.2.2.1 b.2.2.1 (fun u=>(acv s).contains u.1)&&(lm b.2.2.1 s.2.2.1 (fun u=>(acv s).contains u.1) &&
  (lm s.2.2.2.1 b.2.2.2.1 (fun u=>(acv s).contains u.1)&&lm b.2.2.2.1 s.2.2.2.1 (fun u=>(acv s).contains u.1))))))
section
variable {ρ:Type}
def He {α:Type} [DecidableEq α] (x y:List α) (w:α→Bool) (X Y KF:Option ρ) {f:Int→(Int→Option ρ)→Option ρ}
 (h:∀(i:Nat) (a:α),i<x.length→x[i]?=some a→∀kn,f i kn=if !(!w a||QO a y) then(ifb (!(ige (i:Int) 0)) X KF) else kn ((i:Int)+1))
 (hn:∀kn,f x.length kn=Y):Í f 0=if lm x y w then Y else KF:=by
 refine(gK x (fun a=>!(!w a||QO a y)) (fun z=>ifb (!(ige z 0)) X KF) KF Y (fun j=>by rw[show ige (j:Int) 0=true from decide_eq_true (by omega)]; rfl) h hn).trans ?_;unfold lm;rw[List.all_eq_not_any_not]
 cases x.any fun a=>!(!w a||QO a y)<;>rfl
def af5:@tJ ρ=@lN ρ:=rfl
def PE {x y:List Int} (hl:x.length=y.length) (hx:x.length≤1000000) (k0:Bool→Option ρ) (K:Option ρ) :
 Í (fun(v30:Int) kk32=>lN x y (Ô x) v30 (fun u31=>kk32 u31) k0 (fun _=>K)) (0:Int)=if x=y then K else k0 false:=by
 refine(sN x (fun i a=>if y[i]?=some a then none else some false) k0 K (fun i a hi ha kn=>?_) (fun kn=>?_)).trans ?_
 ·try dsimp only
  unfold lN;have hm:y[i]?=some y[i]:=List.getElem?_eq_getElem (by omega);rw[Ö hi,Ì ha,Ì hm,Ñ hi (by omega),hm,Ĵ]
  by_cases h:a=y[i]
  ·simp[ine,h]
  ·have h':¬y[i]=a:=fun e=>h e.symm;simp[ine,h,h']
 ·try dsimp only
  unfold lN;rw[ê]
 ·cases h:Α (fun i a=>if y[i]?=some a then none else some false) 0 x with
  |none=>rw[if_pos (abp hl h)]
  |some b =>
   obtain⟨h1,h2⟩:=abo h;rw[if_neg h2,h1]
def abq {l:List Cmp} (hl:l.length≤1000) (c:Cmp) (hA:c.2.2.1.length≤1000) (hB:c.2.2.2.1.length≤1000) (k0:Int→Option ρ) (K1 KF:Option ρ) (hk:∀j:Nat,k0 (j:Int)=K1) :
 Í (fun(v41:Int) kk43=>oM l (Ô l) c.1 c.2.1 c.2.2.1 c.2.2.2.1 c.2.2.2.2.1 c.2.2.2.2.2.1 c.2.2.2.2.2.2.1 c.2.2.2.2.2.2.2 v41 (fun u42=>kk43 u42) k0 (fun _=>KF)) (0:Int)=if QO c l then K1 else KF:=by
 refine(gK l (fun d=>decide (c=d)) k0 K1 KF hk (fun i d hi hd kn=>?_) (fun kn=>?_)).trans rfl
 ·try dsimp only
  unfold oM
  have hsplit:(c=d)↔(c.1=d.1∧c.2.1=d.2.1∧c.2.2.2.2.1=d.2.2.2.2.1∧c.2.2.2.2.2.1=d.2.2.2.2.2.1∧(c.2.2.2.2.2.2.1=d.2.2.2.2.2.2.1∧c.2.2.2.2.2.2.2=d.2.2.2.2.2.2.2)∧c.2.2.1=d.2.2.1∧c.2.2.2.1=d.2.2.2.1):=by
   simp only[gF];constructor
   ·rintro⟨a1,a2,a3,a4,a5,a6,a7,a8⟩; exact⟨a1,a2,a5,a6,⟨a7,a8⟩,a3,a4⟩
   ·rintro⟨a1,a2,a5,a6,⟨a7,a8⟩,a3,a4⟩; exact⟨a1,a2,a3,a4,a5,a6,a7,a8⟩
  have hno:∀{P:Prop},¬P→(c=d→P)→(if decide (c=d)=true then k0 (i:Int) else kn ((i:Int)+1))=kn ((i:Int)+1):=fun h1 h2=>by
   rw[if_neg];intro h;exact h1 (h2 (of_decide_eq_true h))
  rw[Ö hi,Ì hd,Ñ hi (by omega)]
  by_cases a1:c.1=d.1
  case neg=>rw[hno a1 (fun e=>(hsplit.1 e).1),Õ (beq_eq_false_iff_ne.2 a1)]
  rw[Þ (beq_iff_eq.2 a1)]
  by_cases a2:c.2.1=d.2.1
  case neg=>rw[hno a2 (fun e=>(hsplit.1 e).2.1),Õ (beq_eq_false_iff_ne.2 a2)]
  rw[Þ (beq_iff_eq.2 a2)]
  by_cases a3:c.2.2.2.2.1=d.2.2.2.2.1
  case neg=>rw[hno a3 (fun e=>(hsplit.1 e).2.2.1),Õ (beq_eq_false_iff_ne.2 a3)]
  rw[Þ (beq_iff_eq.2 a3)]
  by_cases a4:c.2.2.2.2.2.1=d.2.2.2.2.2.1
  case neg=>rw[hno a4 (fun e=>(hsplit.1 e).2.2.2.1),Õ (beq_eq_false_iff_ne.2 a4)]
  rw[Þ (beq_iff_eq.2 a4)]
  by_cases a5:c.2.2.2.2.2.2.1=d.2.2.2.2.2.2.1∧c.2.2.2.2.2.2.2=d.2.2.2.2.2.2.2
  case neg=>rw[hno a5 (fun e=>(hsplit.1 e).2.2.2.2.1),Õ (by simp only[ĩ,gp,Bool.and_eq_false_iff,decide_eq_false_iff_not]; exact Decidable.not_and_iff_or_not.1 a5)]
  rw[Þ (by simp[ĩ,a5.1,a5.2]),á,á,á,á]
  have rest:∀X Y:Option ρ,(c.2.2.1=d.2.2.1)→(if decide (c=d)=true then k0 (i:Int) else kn ((i:Int)+1))=(if c.2.2.2.1=d.2.2.2.1 then k0 (i:Int) else kn ((i:Int)+1)):=by
   intro _ _ h
   by_cases g:c.2.2.2.1=d.2.2.2.1
   ·rw[if_pos (decide_eq_true (hsplit.2 ⟨a1,a2,a3,a4,a5,h,g⟩)),if_pos g]
   ·rw[if_neg g]; exact hno g (fun e=>(hsplit.1 e).2.2.2.2.2.2)
  by_cases l1:c.2.2.1.length=d.2.2.1.length
  case neg =>
   rw[hno l1 (fun e=>by rw[e]),Þ (bne_iff_ne.2 (by omega))]
  rw[Õ (by rw[l1]; exact bne_self_eq_false' _)];have e3:=PE (ρ:=ρ) l1 (by omega);rw[á] at e3;rw[e3]
  by_cases g1:c.2.2.1=d.2.2.1
  case neg=>rw[if_neg g1,ã,hno g1 (fun e=>(hsplit.1 e).2.2.2.2.2.1)]
  rw[if_pos g1,rest none none g1]
  by_cases l2:c.2.2.2.1.length=d.2.2.2.1.length
  case neg =>
   rw[Þ (bne_iff_ne.2 (by omega)),if_neg (fun e=>l2 (by rw[e]))]
  rw[Õ (by rw[l2]; exact bne_self_eq_false' _),af5];have e4:=PE (ρ:=ρ) l2 (by omega);rw[á] at e4;rw[e4,ã]
 ·try dsimp only
  unfold oM;rw[ê]
def af4:@lM ρ=@jL ρ:=rfl
def af3:@Ē ρ=@ķ ρ:=rfl
def agS {x y:List ù} (hx:x.length≤1000) (hy:y.length≤1000) (X Y KF:Option ρ):Í (fun(v225:Int) kk227=>oL x (Ô x) y v225 (fun u226=>kk227 u226) (fun z=>ifb (!(ige z 0)) X KF) (fun _=>Y)) (0:Int)=if lm x y (fun _=>true) then Y else KF:=by
 refine He x y (fun _=>true) X Y KF (fun i a hi ha kn=>?_) (fun kn=>?_)
 ·try dsimp only
  unfold oL;rw[Ö hi,Ì ha,Wf (by omega),À,Ñ hi (by omega),Ĵ];simp
 ·try dsimp only
  unfold oL;rw[ê]
def adH {x y:List (Int×Int)} (hx:x.length≤1000) (hy:y.length≤1000) (ids:List Int) (X Y KF:Option ρ):Í (fun(v225:Int) kk227=>jL x (Ô x) (Nl ids) y v225 (fun u226=>kk227 u226) (fun z=>ifb (!(ige z 0)) X KF) (fun _=>Y)) (0:Int)=if lm x y (fun u=>ids.contains u.1) then Y else KF:=by
 refine He x y (fun u=>ids.contains u.1) X Y KF (fun i a hi ha kn=>?_) (fun kn=>?_)
 ·try dsimp only
  unfold jL;rw[Ö hi,Ì ha,xC,We (by omega),À]
  by_cases h:ids.contains a.1=true
  ·rw[if_pos h,Ĥ,Ñ hi (by omega),Ĵ,h];simp
  ·rw[if_neg h,Ñ hi (by omega)];have h':=Bool.not_eq_true _▸h;rw[h'];simp
 ·try dsimp only
  unfold jL;rw[ê]
def adG {x y:List JZ} (hx:x.length≤1000) (hy:y.length≤1000) (ids:List Int) (X Y KF:Option ρ):Í (fun(v225:Int) kk227=>ķ x (Ô x) (Nl ids) y v225 (fun u226=>kk227 u226) (fun z=>ifb (!(ige z 0)) X KF) (fun _=>Y)) (0:Int)=if lm x y (fun u=>ids.contains u.1) then Y else KF:=by
 refine He x y (fun u=>ids.contains u.1) X Y KF (fun i a hi ha kn=>?_) (fun kn=>?_)
 ·try dsimp only
  unfold ķ;rw[Ö hi,Ì ha,xC,SY (by omega),À]
  by_cases h:ids.contains a.1=true
  ·rw[if_pos h,Ĥ,Ñ hi (by omega),Ĵ,h];simp
  ·rw[if_neg h,Ñ hi (by omega)];have h':=Bool.not_eq_true _▸h;rw[h'];simp
 ·try dsimp only
  unfold ķ;rw[ê]
def agR {x y:List JZ} (hx:x.length≤1000) (hy:y.length≤1000) (ids:List Int) (k:Bool→Option ρ):Í (fun(v225:Int) kk227=>ķ x (Ô x) (Nl ids) y v225 (fun u226=>kk227 u226) (fun z=>k (!(ige z 0))) (fun _=>k true)) (0:Int)=k (lm x y (fun u=>ids.contains u.1)):=by
 have h:=adG (ρ:=ρ) hx hy ids (k true) (k true) (k false)
 have e:(fun z:Int=>ifb (!(ige z 0)) (k true) (k false))=fun z=>k (!(ige z 0)):=by
  funext z
  cases(!(ige z 0))<;>rfl
 rw[e] at h;rw[h]
 cases lm x y (fun u=>ids.contains u.1)<;>rfl
def agT {x y:List Cmp} (hx:x.length≤1000) (hp:∀c∈x,c.2.2.1.length≤1000∧c.2.2.2.1.length≤1000) (hy:y.length≤1000) (K:Option Bool):Í (fun(v228:Int) kk230=>oN x (Ô x) y v228 (fun u229=>kk230 u229) (fun z44=>some z44) (fun _=>K)) (0:Int)=if (x.all fun c=>QO c y)=true then K else some false:=by
 refine(gK x (fun c=>!QO c y) (fun _=>some false) (some false) K (fun _=>rfl) (fun i c hi hc kn=>?_) (fun kn=>?_)).trans ?_
 rotate_left
 ·try dsimp only
  unfold oN;rw[ê]
 ·rw[List.all_eq_not_any_not]
  cases x.any fun c=>!QO c y<;>rfl
 ·try dsimp only
  unfold oN;have h:=hp c (List.mem_of_getElem? hc);rw[Ö hi,Ì hc];refine(abq hy c h.1 h.2 _ (kn ((i:Int)+1)) (some false) (fun j=>by rw[show ige (j:Int) 0=true from decide_eq_true (by omega),Ñ hi (by omega)]; rfl)).trans ?_
  cases QO c y<;>rfl
end
def part_ok {s b:Ü} (hs:ke s) (hb:ke b):EZ s b=some (aeg s b):=by
 have g1:=hs.gauges; have g2:=hs.uses; have g3:=hs.loans; have g4:=hs.compares;have b1:=hb.gauges; have b2:=hb.uses; have b3:=hb.loans; have b4:=hb.compares;unfold EZ QY aeg;rw[af4,af3];refine(Ą s.2.1 (fun i=>Nl (acv (s.1,s.2.1.take i,s.2.2))) (some _) rfl (fun i g hi hg kn=>?_) (fun kn=>?_))
 ·try dsimp only
  unfold tK;rw[Ö hi,Ì hg,Ñ hi (by omega)];unfold acv;dsimp only;rw[take_succ hg,List.map_append,List.map_singleton,wd]
 ·try dsimp only
  unfold tK;rw[ê,List.take_length]
  try dsimp only
  rw[show acv (s.1,s.2.1,s.2.2)=acv s from rfl];refine(agT g4 hs.piles b4 _).trans ?_;rw[show(lm s.2.2.2.2.1 b.2.2.2.2.1 fun _=>true)=s.2.2.2.2.1.all fun c=>QO c b.2.2.2.2.1 from rfl]
  by_cases hc:(s.2.2.2.2.1.all fun c=>QO c b.2.2.2.2.1)=true
  case neg=>rw[if_neg hc,ez.2 hc]; rfl
  rw[if_pos hc,hc,dF]
  by_cases hf:s.1=b.1
  case neg =>
   have ef:(ĩ s.1.1 b.1.1&&(ĩ s.1.2 b.1.2&&true))=false:=by
    rw[gF] at hf;simp[ĩ];omega
   rw[ef,ã,decide_eq_false hf];rfl
  have ef:(ĩ s.1.1 b.1.1&&(ĩ s.1.2 b.1.2&&true))=true:=by simp[ĩ,hf]
  rw[ef,Ĥ,decide_eq_true hf,dF];refine(agS g1 b1 _ _ _).trans ?_;cases lm s.2.1 b.2.1 fun _=>true
  case false=>rfl
  rw[if_pos rfl,dF];refine(adH g2 b2 _ _ _ _).trans ?_;cases lm s.2.2.1 b.2.2.1 fun u=>(acv s).contains u.1
  case false=>rfl
  rw[if_pos rfl,dF];refine(adH b2 g2 _ _ _ _).trans ?_;cases lm b.2.2.1 s.2.2.1 fun u=>(acv s).contains u.1
  case false=>rfl
  rw[if_pos rfl,dF];refine(adG g3 b3 _ _ _ _).trans ?_;cases lm s.2.2.2.1 b.2.2.2.1 fun u=>(acv s).contains u.1
  case false=>rfl
  rw[if_pos rfl,dF];exact agR b3 g3 _ some
def vL (x:List Int) (y:List Int) (l:Lk):List Int:=if gv x l.2.1=ψ then y else y.set l.1.toNat (min (gv y l.1) (l.2.2+gv x l.2.1))
def VH (L:List Lk) (N:Nat) (x:List Int):List Int:=L.foldl (vL x) (List.replicate N ψ)
def exL (L:List Lk) (N:Nat) (to:Int):Nat→List Int
 |0=>(List.replicate N ψ).set to.toNat 0
 |k+1=>VH L N (exL L N to k)
def nl (L:List Lk) (N:Nat) (to:Int) (most:Nat):List (List Int):=(List.range (most+1)).map (exL L N to)
section
variable {L:List Lk} {N:Nat}
def PY (x y:List Int) (l:Lk):(vL x y l).length=y.length:=by unfold vL; split<;>simp
def GY (x:List Int):∀(M:List Lk) (y:List Int),(M.foldl (vL x) y).length=y.length
 |[],y=>rfl
 |l::M,y=>by rw[fj,GY x M,PY]
def aai (x:List Int):(VH L N x).length=N:=by unfold VH; rw[GY]; simp
def XK (to:Int) (k:Nat):(exL L N to k).length=N:=by
 cases k with
 |zero=>simp[exL]
 |succ k=>exact aai _
def Lim (B:Int) (x:List Int):Prop:=∀v:Int,gv x v≠ψ→-B≤gv x v∧gv x v≤B
def gv_out {x:List Int} {v:Int} (h:¬v.toNat<x.length):gv x v=0:=by
 unfold gv;rw[List.getElem?_eq_none (by omega)];rfl
def aco {B:Int} (hB:0≤B):Lim B (List.replicate N ψ):=by
 intro v hv
 by_cases h:v.toNat<N
 ·exfalso; apply hv;unfold gv;rw[List.getElem?_replicate,if_pos h];rfl
 ·rw[gv_out (by simpa using h)]; omega
def acn {B:Int} {y:List Int} (hy:Lim B y) {u:Int} (hu:0≤u) (hl:u.toNat<y.length) {a:Int} (ha:a≠ψ→-B≤a∧a≤B):Lim B (y.set u.toNat a):=by
 intro v hv
 by_cases h:v.toNat=u.toNat
 ·have:gv (y.set u.toNat a) v=a:=by
   unfold gv;rw[h,List.getElem?_set_self hl];rfl
  rw[this] at hv ⊢;exact ha hv
 ·have:gv (y.set u.toNat a) v=gv y v:=by
   unfold gv;rw[List.getElem?_set_ne (fun e=>h e.symm)]
  rw[this] at hv ⊢;exact hy v hv
def aew (hS:gW L N) {B:Int} (hB:0≤B) (hB2:B≤1000000000000000000) {x y:List Int} (hx:Lim B x) (hy:Lim (B+4503599627370496) y) (hl:y.length=N) {l:Lk} (hm:l∈L):Lim (B+4503599627370496) (vL x y l):=by
 unfold vL
 split
 ·exact hy
 ·rename_i hf;have h1:=hS.inr l hm;have h2:=hS.most l hm;have h3:=hx _ hf;refine acn hy h1.1.1 (by omega) fun ha=>?_
  by_cases h4:gv y l.1=ψ
  ·rw[h4] at ha ⊢
   have:min ψ (l.2.2+gv x l.2.1)=l.2.2+gv x l.2.1:=by unfold ψ; omega
   rw[this]; omega
  ·have:=hy _ h4;omega
def YV (hS:gW L N) {B:Int} (hB:0≤B) (hB2:B≤1000000000000000000) {x:List Int} (hx:Lim B x):∀(M:List Lk),(∀l∈M,l∈L)→∀y:List Int,y.length=N→Lim (B+4503599627370496) y→Lim (B+4503599627370496) (M.foldl (vL x) y)
 |[],_,y,_,hy=>hy
 |l::M,hM,y,hl,hy=>by
  rw[fj];exact YV hS hB hB2 hx M (fun m hm=>hM m (by simp[hm])) _ (by rw[PY,hl]) (aew hS hB hB2 hx hy hl (hM l (by simp)))
def XB (hS:gW L N) {to:Int} (ht:0≤to∧to<N):∀k:Nat,k≤200→Lim (k*4503599627370496) (exL L N to k)
 |0,_=>by
  unfold exL;exact acn (aco (by omega)) ht.1 (by simp; omega) (fun _=>by omega)
 |k+1,hk=>by
  have:=YV hS (B:=k*4503599627370496) (by omega) (by omega) (XB hS ht k (by omega)) L (fun _ h=>h) (List.replicate N ψ) (by simp) (aco (by omega));unfold exL VH
  have e:(((k+1:Nat):Int)*4503599627370496)=(k:Int)*4503599627370496+4503599627370496:=by push_cast; omega
  rw[e];exact this
def VE {ρ:Type} (hN:N≤1000) (K:List Int→Option ρ) {f:Int×List Int→(Int×List Int→Option ρ)→Option ρ}
 (hf:∀(v:Int×List Int) kk,f v kk=yk (N:Int) v.1 v.2 (fun u34 u35=>kk (u34,u35)) K):Í f ((0:Int),List.replicate N (0:Int))=K (List.replicate N ψ):=by
 refine Ą (List.replicate N (0:Int)) (fun i=>List.replicate i ψ++List.replicate (N-i) (0:Int)) _ (by simp) (fun i a hi ha kn=>?_) (fun kn=>?_)
 ·rw[hf];dsimp only;unfold yk;rw[List.length_replicate] at hi
  have hlen:(List.replicate i ψ++List.replicate (N-i) (0:Int)).length=N:=by simp; omega
  have e1:ilt (i:Int) (N:Int)=true:=decide_eq_true (by omega);rw[Þ e1,show ą (List.replicate i ψ++List.replicate (N-i) (0:Int))=(N:Int) by unfold ą; rw[hlen],iZ (by omega) (by omega),jF (by rw[hlen]; omega),Û (by omega) (by omega)];congr 2;rw[Int.toNat_natCast];rw[List.set_append_right _ _ (by simp),List.length_replicate,Nat.sub_self];rw[show N-i=(N-(i+1))+1 by omega,List.replicate_succ,List.set_cons_zero,List.replicate_succ'];simp
 ·rw[hf];dsimp only;unfold yk;rw[List.length_replicate];have e1:ilt (N:Int) (N:Int)=false:=decide_eq_false (by omega);rw[Õ e1];simp
def okN (hN:N≤1000) {ρ:Type} (x:Option ρ):ç ((ile (0:Int) (N:Int))&&(è (Int.toNat (N:Int)))) x=x:=by
 rw[ģ];rw[dc,Ø (by omega),gp];exact decide_eq_true (by omega)
def acm {ρ:Type} (hS:gW L N) {B:Int} (hB:0≤B) (hB2:B≤1000000000000000000) {x:List Int} (hx:Lim B x) (hxl:x.length=N) (K:List Int→Option ρ) :
 Í (fun(v20:(Val (.pair tI (.slice tI)))) kk23=>DQ x L (Ô L) v20.1 v20.2 (fun u21 u22=>kk23 (u21,u22)) K) ((0:Int),List.replicate N ψ)=K (VH L N x):=by
 have hl3:=hS.len;refine Ą L (fun i=>(L.take i).foldl (vL x) (List.replicate N ψ)) _ rfl (fun i l hi hl kn=>?_) (fun kn=>?_)
 ·try dsimp only
  unfold DQ;have hm:=List.mem_of_getElem? hl;have h1:=hS.inr l hm;have h2:=hS.most l hm;rw[Ö hi,Ì hl,m9 h1.2.1 (by omega),take_succ hl,List.foldl_append,Ñ hi (by omega)]
  have hlen:((L.take i).foldl (vL x) (List.replicate N ψ)).length=N:=by rw[GY]; simp
  generalize (L.take i).foldl (vL x) (List.replicate N ψ)=y at hlen ⊢
  by_cases hf:gv x l.2.1=ψ
  ·rw[Õ (by rw[hf]; rfl)];simp only[List.foldl_cons,List.foldl_nil];unfold vL;rw[if_pos hf]
  ·have h3:=hx _ hf;rw[Þ (bne_iff_ne.2 hf),show ą y=(N:Int) by unfold ą; rw[hlen],iZ h1.1.1 h1.1.2,jF (by omega),m9 h1.2.1 (by omega),Û (by omega) (by omega),iZ h1.1.1 h1.1.2,jF (by omega),Ñ hi (by omega)];simp only[List.foldl_cons,List.foldl_nil];unfold vL;rw[if_neg hf,GO]
 ·try dsimp only
  unfold DQ;rw[ê,List.take_length];rfl
def aeM {ρ:Type}:@Rj ρ=@yk ρ:=rfl
def ka (to:Int) (m:Nat):(nl L N to m).length=m+1:=by simp[nl]
def GX {to:Int} {m k:Nat} (hk:k≤m):(nl L N to m)[k]?=some (exL L N to k):=by
 unfold nl;rw[List.getElem?_map,List.getElem?_range (by omega)];rfl
def aeL (hS:gW L N) {to:Int} (ht:0≤to∧to<N) {most:Nat} (hm:most≤100):xJ ((N:Int),L) to (most:Int)=some (nl L N to most):=by
 have hN:=hS.n60
 unfold xJ Li
 dsimp only;rw[okN (by omega),Int.toNat_natCast];refine(VE (by omega) _ (fun v kk=>by rw[á,List.length_replicate])).trans ?_;rw[show ą (List.replicate N ψ)=(N:Int) by simp[ą],iZ ht.1 ht.2,jF (by simp; omega)];refine Ą (List.replicate most ()) (fun i=>nl L N to i) _ (by simp[nl,exL]) (fun i a hi ha kn=>?_) (fun kn=>?_)
 ·try dsimp only
  unfold JN;rw[List.length_replicate] at hi;have e1:ilt (i:Int) (most:Int)=true:=decide_eq_true (by omega);rw[Þ e1,á,ka]
  have e2:(((i+1:Nat):Int)-1)=(i:Int):=by omega
  rw[e2,Û (by omega) (by omega),show ą (nl L N to i)=((i+1:Nat):Int) by unfold ą; rw[ka],iZ (by omega) (by omega),Int.toNat_natCast,tv (GX (Nat.le_refl i)),okN (by omega),Int.toNat_natCast];rw[aeM];refine(VE (by omega) _ (fun v kk=>by rw[á,List.length_replicate])).trans ?_;refine(acm hS (B:=i*4503599627370496) (by omega) (by omega) (XB hS ht i (by omega)) (XK _ _) _).trans ?_;rw[ģ (Ø (by simp only[ka,List.length_singleton]; omega)),Û (by omega) (by omega)];congr 2;unfold nl;rw[List.range_succ (n:=i+1),List.map_append];rfl
 ·try dsimp only
  unfold JN;rw[List.length_replicate];have e1:ilt (most:Int) (most:Int)=false:=decide_eq_false (by omega);rw[Õ e1]
def Ns (L:List Lk) (x:List Int) (good:Int→Bool) (u sum:Int):Option Nat:=L.findIdx? fun l=>l.1==u&&(decide (gv x l.2.1≠ψ)&&good (sum+l.2.2+gv x l.2.1))
def rl (L:List Lk) (rest:Nat→List Int) (good:Int→Bool):Nat→Int→Int→List Int→List Int
 |0,_,_,out=>out
 |k+1,u,sum,out=>match Ns L (rest k) good u sum with
  |some i=>rl L rest good k (L[i]?.getD (0,0,0)).2.1 (sum+(L[i]?.getD (0,0,0)).2.2) (out++[(i:Int)])
  |none=>rl L rest good k u sum out
def folL {ρ:Type} (good:Int→Bool) (c0:Int) (c1:List (List Int)) (c2:List Lk) (c3:Int) (v0:Int) (v1:Int) (v2:Int) (v3:List Int) (kn:Int→Int→Int→List Int→Option ρ) (k0:Int×Int×List Int→Option ρ):Option ρ :=
 ifb (ilt v2 c3) (û c2 v2 fun e7=>ifb (ieq e7.1 v0) (ck (c0-(1:Int)) fun n8=>û c1 n8 fun e9=>û e9 e7.2.1 fun e10=>ifb (ine e10 (1152921504606846976:Int)) (ck (v1+e7.2.2) fun n11=>ck (c0-(1:Int)) fun n12=>û c1 n12 fun e13=>û e13 e7.2.1 fun e14=>ck (n11+e14) fun n15=>ifb (good n15) (ç (è ((List.length v3)+(List.length ([v2])))) (ck (v1+e7.2.2) fun n16=>k0 (e7.2.1,n16,(v3++([v2]))))) (ck (v2+(1:Int)) fun n17=>kn v0 v1 n17 v3)) (ck (v2+(1:Int)) fun n18=>kn v0 v1 n18 v3)) (ck (v2+(1:Int)) fun n19=>kn v0 v1 n19 v3)) (k0 (v0,v1,v3))
def agp {ρ:Type} (hS:gW L N) (good:Int→Bool) {rest:List (List Int)} {k:Nat} {x:List Int} (hr:rest[k]?=some x) (hk:k≤100) (hx:Lim 1000000000000000000 x) (hxl:x.length=N) {u sum:Int} (hs : -1000000000000000000≤sum∧sum≤1000000000000000000) {out:List Int} (ho:out.length≤1000)
 (K:Int×Int×List Int→Option ρ):Í (fun(v:Int×Int×Int×List Int) kk=>folL good ((k+1:Nat):Int) rest L (Ô L) v.1 v.2.1 v.2.2.1 v.2.2.2 (fun a b c d=>kk (a,b,c,d)) K) (u,sum,(0:Int),out) =
  match Ns L x good u sum with|some i=>K ((L[i]?.getD (0,0,0)).2.1,sum+(L[i]?.getD (0,0,0)).2.2,out++[(i:Int)])|none=>K (u,sum,out):=by
 have hl3:=hS.len;refine ť (fun v=>∃i:Nat,i≤L.length∧v=(u,sum,(i:Int),out)∧∀j l,j<i→L[j]?=some l→(l.1==u&&(decide (gv x l.2.1≠ψ)&&good (sum+l.2.2+gv x l.2.1)))=false) (fun v=>L.length-v.2.2.1.toNat) ?_ ⟨0,by omega,rfl,fun j l h=>by omega⟩;rintro v ⟨i,hi,rfl,hp⟩
 have e0:(((k+1:Nat):Int)-1)=(k:Int):=by omega
 rcases dt i L.length with h2|h2
 ·have hl:L[i]?=some L[i]:=cD h2;generalize L[i]=l at hl;have hm:=cM hl;have h1:=hS.inr l hm;have h4:=hS.most l hm
  have hstep:(l.1==u&&(decide (gv x l.2.1≠ψ)&&good (sum+l.2.2+gv x l.2.1)))=false→∃y,(∃i:Nat,i≤L.length∧y=(u,sum,(i:Int),out)∧∀j l,j<i→L[j]?=some l→(l.1==u&&(decide (gv x l.2.1≠ψ)&&good (sum+l.2.2+gv x l.2.1)))=false)∧(L.length-y.2.2.1.toNat<L.length-((u,sum,(i:Int),out):Int×Int×Int×List Int).2.2.1.toNat)∧y=(u,sum,(i:Int)+1,out):=fun hf =>
   ⟨_,⟨i+1,h2,by rw[show((i+1:Nat):Int)=(i:Int)+1 by push_cast; rfl],fun j m hj hm=>by
    rcases Nat.lt_succ_iff_lt_or_eq.1 hj with h|rfl
    ·exact hp j m h hm
    ·rw[hl] at hm; cases hm; exact hf⟩,by simp; omega,rfl⟩
  by_cases hf:(l.1==u&&(decide (gv x l.2.1≠ψ)&&good (sum+l.2.2+gv x l.2.1)))=true
  ·refine .inl fun kn=>?_
   have hfi:Ns L x good u sum=some i:=by
    unfold Ns;rw[List.findIdx?_eq_some_iff_getElem];obtain⟨hh,rfl⟩:=List.getElem?_eq_some_iff.1 hl;exact⟨h2,hf,fun j hj=>by have:=hp j _ hj (List.getElem?_eq_getElem (by omega)); rw[this]; simp⟩
   rw[hfi];simp only[Bool.and_eq_true,beq_iff_eq,decide_eq_true_eq] at hf;have h5:=hx _ hf.2.1;dsimp only;unfold folL
   rw[Ö h2,Ì hl,Þ (by simp[hf.1]),e0,Û (by omega) (by omega),Ì hr,m9 h1.2.1 (by omega),Þ (bne_iff_ne.2 hf.2.1),Û (by omega) (by omega),Û (by omega) (by omega),Ì hr,m9 h1.2.1 (by omega),Û (by omega) (by omega),Þ hf.2.2,
    ģ (Ø (by simp; omega)),Û (by omega) (by omega),hl]
   rfl
  ·have hf':=Bool.not_eq_true _▸hf;obtain⟨y,hy1,hy2,rfl⟩:=hstep hf';refine .inr ⟨_,hy1,hy2,fun kn=>?_⟩;dsimp only;unfold folL;rw[Ö h2,Ì hl,Ñ h2 (by omega)]
   by_cases g1:l.1=u
   ·rw[Þ (by simp[g1]),e0,Û (by omega) (by omega),Ì hr,m9 h1.2.1 (by omega)]
    by_cases g2:gv x l.2.1=ψ
    ·rw[Õ (by rw[g2]; rfl)]
    ·have h5:=hx _ g2
     have g3:good (sum+l.2.2+gv x l.2.1)=false:=by simpa[g1,g2] using hf'
     rw[Þ (bne_iff_ne.2 g2),Û (by omega) (by omega),Û (by omega) (by omega),Ì hr,m9 h1.2.1 (by omega),Û (by omega) (by omega),Õ g3]
   ·rw[Õ (by simpa using g1)]
 ·refine .inl fun kn=>?_
  obtain rfl:i=L.length:=by omega
  have hfi:Ns L x good u sum=none:=by
   unfold Ns;rw[List.findIdx?_eq_none_iff];intro l hl;obtain⟨j,hj,rfl⟩:=List.mem_iff_getElem.1 hl;exact hp j _ hj (List.getElem?_eq_getElem hj)
  rw[hfi];dsimp only;unfold folL;rw[ê]
def ago {ρ:Type} (good:Int→Bool) (c0:List (List Int)) (c6:List Lk) (v0:Int) (v1:Int) (v2:Int) (v3:List Int) (kn:Int→Int→Int→List Int→Option ρ) (k0:List Int→Option ρ):Option ρ :=
 ifb (igt v1 (0:Int)) (Í (fun(v22:Int×Int×Int×List Int) kk27=>folL good v1 c0 c6 (Ô c6) v22.1 v22.2.1 v22.2.2.1 v22.2.2.2 (fun u23 u24 u25 u26=>kk27 (u23,u24,u25,u26)) (fun z20=>ck (v1-(1:Int)) fun n21=>kn z20.1 n21 z20.2.1 z20.2.2)) (v0,v2,(0:Int),v3)) (k0 v3)
def ae3 {ρ:Type} (c0:List (List Int)) (c4:Int) (c6:List Lk):@ql ρ c0 c4 c6=ago (fun n=>ieq n c4) c0 c6:=rfl
def agn {ρ:Type} (hS:gW L N) (good:Int→Bool) {rest:List (List Int)} {R:Nat→List Int} {k0:Nat} (hk:k0≤100) (hr:∀k,k<k0→rest[k]?=some (R k)) (hx:∀k,k<k0→Lim 900000000000000000 (R k)∧(R k).length=N) (u:Int) (K:List Int→Option ρ) :
 Í (fun(v:Int×Int×Int×List Int) kk=>ago good rest L v.1 v.2.1 v.2.2.1 v.2.2.2 (fun a b c d=>kk (a,b,c,d)) K) (u,(k0:Int),(0:Int),[])=K (rl L R good k0 u 0 []):=by
 have key:=sO (f:=fun(v:Int×Int×Int×List Int) kk=>ago good rest L v.1 v.2.1 v.2.2.1 v.2.2.2 (fun a b c d=>kk (a,b,c,d)) K) (F:=fun v=>K (rl L R good v.2.1.toNat v.1 v.2.2.1 v.2.2.2))
  (fun v=>∃k:Nat,v.2.1=k∧k≤k0∧(-(((k0-k:Nat):Int)*4503599627370496)≤v.2.2.1∧v.2.2.1≤((k0-k:Nat):Int)*4503599627370496)∧v.2.2.2.length≤k0-k) (fun v=>v.2.1.toNat) (fun v hv kn hk=>?_) (x:=(u,(k0:Int),0,[])) ⟨k0,rfl,cE _,by simp,by simp⟩
 ·rw[key]; simp
 ·obtain⟨u,k',sum,out⟩:=v;obtain⟨k,e,h1,h2,h3⟩:=hv;dsimp only at e h2 h3 hk ⊢;subst e;rw[Int.toNat_natCast] at hk ⊢;unfold ago
  cases k with
  |zero =>
   rw[Õ (by rfl)];rfl
  |succ k =>
   rw[Þ (decide_eq_true (by omega))];have hh:=hx k (by omega)
   have hlim:Lim 1000000000000000000 (R k):=fun v hv=>by have:=hh.1 v hv; omega
   refine(agp hS good (hr k (by omega)) (by omega) hlim hh.2 (by omega) (by omega) _).trans ?_;unfold rl
   have e0:(((k+1:Nat):Int)-1)=(k:Int):=by omega
   cases hn:Ns L (R k) good u sum with
   |none =>
    dsimp only;rw[e0,Û (by omega) (by omega),hk _ ⟨k,rfl,by omega,by dsimp only; omega,by dsimp only; omega⟩ (by simp)];simp
   |some i =>
    have hi:i<L.length:=by
     unfold Ns at hn;exact(List.findIdx?_eq_some_iff_getElem.1 hn).1
    have hl:L[i]?=some L[i]:=List.getElem?_eq_getElem hi;have h4:=hS.most L[i] (List.getElem_mem _);dsimp only;rw[hl];simp only[Option.getD_some];rw[e0,Û (by omega) (by omega),hk _ ⟨k,rfl,by omega,by dsimp only; omega,by simp; omega⟩ (by simp)];simp
def Ni (L:List Lk) (N:Nat) (u v:Int):List Int×Int :=
 if (gV L N u v).2≠0 then([],(gV L N u v).2) else
 match (nl L N v N).findIdx? (fun x=>gv x u==(gV L N u v).1) with
 |some k=>(rl L (exL L N v) (fun n=>ieq n (gV L N u v).1) k u 0 [],0)
 |none=>([],0)
def ZE (hS:gW L N) {u v:Int} (hu:0≤u∧u<N) (hv:0≤v∧v<N):xL ((N:Int),L) u v=some (Ni L N u v):=by
 have hN:=hS.n60;unfold xL Ly Ni;rw[J1 hS hu hv,À]
 by_cases h:(gV L N u v).2=0
 ·rw[Õ (by rw[h]; rfl),if_neg (by simp[h]),aeL hS hv (by omega),À];rw[ae3]
  let k0:Int→Option (List Int×Int):=fun j=>Í (fun(v29:Int×Int×Int×List Int) kk34=>ago (fun n=>ieq n (gV L N u v).1) (nl L N v N) L v29.1 v29.2.1 v29.2.2.1 v29.2.2.2 (fun u30 u31 u32 u33=>kk34 (u30,u31,u32,u33)) (fun z28=>some ((z28,(0:Int)):List Int×Int))) (u,j,(0:Int),[])
  refine(iX (nl L N v N) (fun x=>gv x u==(gV L N u v).1) k0 (k0 (-1)) (fun i x hi hx kn=>?_) (fun kn=>?_)).trans ?_
  rotate_left
  ·try dsimp only
   unfold qm;rw[ê]
  ·have hex:∀k,k<N+1→(nl L N v N)[k]?=some (exL L N v k):=fun k hk=>GX (by omega)
   have hlim:∀k,k<N+1→Lim 900000000000000000 (exL L N v k)∧(exL L N v k).length=N:=fun k hk=>⟨fun w hw=>by
    have:=XB hS hv k (by omega) w hw; omega,XK _ _⟩
   cases hf:(nl L N v N).findIdx? (fun x=>gv x u==(gV L N u v).1) with
   |none =>
    have:=sO (f:=fun(v29:Int×Int×Int×List Int) kk34=>ago (fun n=>ieq n (gV L N u v).1) (nl L N v N) L v29.1 v29.2.1 v29.2.2.1 v29.2.2.2 (fun u30 u31 u32 u33=>kk34 (u30,u31,u32,u33)) (fun z28=>some ((z28,(0:Int)):List Int×Int))) (F:=fun _=>some (([],0):List Int×Int)) (fun v=>v.2.1 = -1∧v.2.2.2=[]) (fun _=>0) (fun x hx kn hk=>by
     unfold ago;rw[hx.1,hx.2]
     rfl) (x:=(u,(-1:Int),(0:Int),[])) ⟨rfl,rfl⟩
    exact this
   |some k =>
    have hk:=(dG.1 hf).1;rw[ka] at hk;exact agn hS _ (R:=exL L N v) (by omega) (fun j hj=>hex j (by omega)) (fun j hj=>hlim j (by omega)) u (fun z=>some ((z,(0:Int)):List Int×Int))
  ·try dsimp only
   unfold qm
   have hxl:x.length=N:=by
    have hi':=hi;rw[ka] at hi';rw[GX (by omega)] at hx;cases hx;exact XK _ _
   rw[ka] at hi;rw[á,ka,Þ (decide_eq_true (by omega)),Ì hx,m9 hu.1 (by omega),Û (by omega) (by omega),Ĵ]
 ·rw[Þ (bne_iff_ne.2 h),if_pos h]
end
theorem Qg {b:Ü} (h:Ğ b):(ŕ b).length=(Ý b).length:=by
 have g0:∀i,((b.2.1.take i).mapIdx (ī b)).flatten.length=((b.2.1.take i).flatMap (Ġ b)).length:=by
  intro i
  induction i with
  |zero=>simp
  |succ i ih =>
   rcases dt i b.2.1.length with hi|hi
   ·have hg:b.2.1[i]?=some b.2.1[i]:=List.getElem?_eq_getElem hi;rw[lz _ hg,take_succ hg,List.flatMap_append,List.flatten_append,List.length_append,List.length_append,ih];congr 1;unfold ī Ġ;simp only[List.flatMap_cons,List.flatMap_nil,List.append_nil,List.flatten_cons,List.flatten_nil,List.length_append];rw[jD _ _ (fun _=>rfl),jD _ _ (fun _=>rfl)];rfl
   ·rw[dS (by omega)] at ih ⊢;exact ih
 have c0:=aaG (b:=b) b.2.2.2.2.1.length (Nat.le_refl _);have g1:=g0 b.2.1.length;rw[List.take_length] at c0 g1;unfold ŕ Ý;rw[List.length_append,List.length_append,g1,c0.1,c0.2]
theorem Vs {b:Ü}:∀s∈(b.2.1.mapIdx (ī b)).flatten,(s.1=1∨s.1=2)∧0≤s.2∧s.2<b.2.1.length:=by
 intro s hs;obtain⟨l,hl,hm⟩:=List.mem_flatten.1 hs;obtain⟨i,hi,rfl⟩:=List.mem_iff_getElem.1 hl;rw[List.length_mapIdx] at hi;rw[List.getElem_mapIdx] at hm;unfold ī at hm;rcases List.mem_append.1 hm with h|h
 ·simp at h; subst h; exact⟨.inl rfl,by dsimp only; omega,by dsimp only; omega⟩
 ·obtain⟨_,_,h⟩:=List.mem_flatMap.1 h;simp at h; subst h; exact⟨.inr rfl,by dsimp only; omega,by dsimp only; omega⟩
theorem VN {l:List Cmp}:∀s∈(l.mapIdx fun i (_:Cmp)=>[((3:Int),(i:Int)),((3:Int),(i:Int))]).flatten,s.1=3∧0≤s.2∧s.2<l.length:=by
 intro s hs;obtain⟨m,hl,hm⟩:=List.mem_flatten.1 hs;obtain⟨i,hi,rfl⟩:=List.mem_iff_getElem.1 hl;rw[List.length_mapIdx] at hi;rw[List.getElem_mapIdx] at hm;simp at hm; subst hm;exact⟨rfl,by dsimp only; omega,by dsimp only; omega⟩
theorem aeq (b:Ü) (c:Cmp):∃S:List (Int×Int),ŕ (ë b c)=S++[(3,(b.2.2.2.2.1.length:Int)),(3,(b.2.2.2.2.1.length:Int))]∧∀s∈S,¬(s.1=3∧s.2=(b.2.2.2.2.1.length:Int)):=by
 refine⟨((ë b c).2.1.mapIdx (ī (ë b c))).flatten++(b.2.2.2.2.1.mapIdx fun i (_:Cmp)=>[((3:Int),(i:Int)),((3:Int),(i:Int))]).flatten,?_,fun s hs=>?_⟩
 ·unfold ŕ;rw[show(ë b c).2.2.2.2.1=b.2.2.2.2.1++[c] from rfl,List.mapIdx_append,List.flatten_append,List.append_assoc];simp
 ·rcases cI.1 hs with h|h
  ·have:=Vs s h; omega
  ·have:=VN s h; omega
theorem PF (b:Ü) (c:Cmp) (h:Ğ (ë b c)):Ý (ë b c)=ô (ë b c)++[(cy (ë b c) c,cx (ë b c) c,(ω (ë b c) c).2),(cx (ë b c) c,cy (ë b c) c,-(ω (ë b c) c).1)]:=by
 rw[XG];unfold Ý;rw[show(ë b c).2.2.2.2.1=b.2.2.2.2.1++[c] from rfl,List.flatMap_append,List.append_assoc];simp[ĉ]
def afB (b:Ü) (c:Cmp) (s t:Int):Int:=dst (ô (ë b c)) ((Ë (ë b c)).length+1) s t
abbrev End:Type:=Int×Int×Int
abbrev Hf:Type:=(Int×Int)×End×End
def endP (b:Ü) (c:Cmp) (s t:Int):End :=
 (afB b c s t,afB b c s (cy (ë b c) c)+(ω b c).2+afB b c (cx (ë b c) c) t,afB b c s (cx (ë b c) c)-(ω b c).1+afB b c (cy (ë b c) c) t)
def worth0:Hf:=((0,0),(0,0,0),(0,0,0))
def S8 (b:Ü) (n:Int×Int) (c:Cmp):Hf :=
 ((į b c).1,endP b (È c) 0 (jC (ë b (È c)) n.1 n.2),endP b (È c) (jC (ë b (È c)) n.1 n.2) 0)
def Sg (b:Ü) (n:Int×Int) (c:Cmp):Hf×Int:=if (į b c).2≠0 then(worth0,(į b c).2) else(S8 b n c,0)
theorem Hr {b:Ü} {c:Cmp} (h:(į b c).2=0):Ő (Ý b) ((Ë b).length+1)=true:=by
 obtain⟨g1,g2⟩:=nM h;rw[Ng g1 g2] at h
 by_cases ho:Ő (Ý b) ((Ë b).length+1)=true
 ·exact ho
 ·rw[if_neg ho] at h; cases h
section
variable {b:Ü} {c:Cmp} (h:Ğ b) (h':Ğ (ë b c)) (ho:Ő (Ý b) ((Ë b).length+1)=true)
include h h' ho
theorem rk {s t:Int} (hs:0≤s∧s<((Ë (ë b c)).length+1:Nat)) (ht:0≤t∧t<((Ë (ë b c)).length+1:Nat)) : -9007199254740992≤afB b c s t∧afB b c s t≤9007199254740992 :=
 Zf (jd h') (jt h') (by rw[oW h h']; exact ho) hs ht
theorem sS (B:Ü) {s t:Int} (hs:0≤s∧s<((Ë (ë b c)).length+1:Nat)) (ht:0≤t∧t<((Ë (ë b c)).length+1:Nat)):É (B,(((Ë (ë b c)).length:Int)+1,ô (ë b c))) t s=some (afB b c s t):=by
 rw[show(((Ë (ë b c)).length:Int)+1)=(((Ë (ë b c)).length+1:Nat):Int) by push_cast; rfl,V3 (jd h') ht hs,yM (jd h') (jt h') hs ht,if_pos (by rw[oW h h']; exact ho)];rfl
theorem abn:(-4503599627370496≤(ω b c).1∧(ω b c).1≤4503599627370496)∧(-4503599627370496≤(ω b c).2∧(ω b c).2≤4503599627370496):=by
 have hs:=h'.sys;have e:=PF b c h';have m1:=hs.most (cy (ë b c) c,cx (ë b c) c,(ω (ë b c) c).2) (by rw[e]; simp);have m2:=hs.most (cx (ë b c) c,cy (ë b c) c,-(ω (ë b c) c).1) (by rw[e]; simp);have e2:ω (ë b c) c=ω b c:=rfl;rw[e2] at m1 m2;dsimp only at m1 m2;omega
theorem Zb (B:Ü) {s t:Int} (hs:0≤s∧s<((Ë (ë b c)).length+1:Nat)) (ht:0≤t∧t<((Ë (ë b c)).length+1:Nat)) :
 mL t s (B,(((Ë (ë b c)).length:Int)+1,ô (ë b c))) (cy (ë b c) c) (ω b c) (cx (ë b c) c)=some (endP b c s t):=by
 have hx:=Az h';have hy:=Ay h';have b1:=rk h h' ho hs ht;have b2:=rk h h' ho hs hy;have b3:=rk h h' ho hx ht;have b4:=rk h h' ho hs hx;have b5:=rk h h' ho hy ht;have b6:=abn h h' ho;unfold mL wJ;rw[sS h h' ho B hs ht,À,sS h h' ho B hs hy,À,Û (by omega) (by omega),sS h h' ho B hx ht,À,Û (by omega) (by omega),sS h h' ho B hs hx,À,Û (by omega) (by omega),sS h h' ho B hy ht,À,Û (by omega) (by omega)];rfl
end
theorem TJ {B:Ü} (h:Ğ B) (hn:∀g∈B.2.1,I64 g.2.2.2.2.1.1) (s:Sys) (l:List Int) (c:Cmp):mM l (B,s) c=some (atP (Ë B) l c.2.1):=by
 unfold mM wK
 cases l with
 |nil=>rw[á]; rfl
 |cons x t =>
  rw[á,Õ (beq_eq_false_iff_ne.2 (by simp; omega)),show(0:Int)=((0:Nat):Int) from rfl,Ì (show(x::t)[0]?=some x from rfl),IE h hn,À];rfl
theorem acC {ρ:Type} {b:Ü} {c:Cmp} (h:Ğ (ë b c)) (K:List Lk→Option ρ) :
 Í (fun(v17:Val Ð) kk20=>kB (b.2.2.2.2.1.length:Int) (ŕ (ë b c)) (Ý (ë b c)) (Ô (Ý (ë b c))) v17.1 v17.2 (fun u18 u19=>kk20 (u18,u19)) K) ((0:Int),[])=K (ô (ë b c)):=by
 have hl3:=h.sys.len;have hsl:=Qg h;obtain⟨S,hS,hSk⟩:=aeq b c;have hL:=PF b c h
 have hSl:S.length=(ô (ë b c)).length:=by
  rw[hS,hL,cG,cG] at hsl;simpa using hsl
 generalize ô (ë b c)=H at hL hSl ⊢;rw[hS];generalize Ý (ë b c)=L at hL hsl hl3 ⊢
 have hLl:L.length=H.length+2:=by rw[hL]; simp
 refine Ą L (fun i=>(L.take i).take H.length) _ (by simp) (fun i l hi hl kn=>?_) (fun kn=>?_)
 ·try dsimp only
  unfold kB;rw[Ö hi,Ì hl];rcases Nat.lt_or_ge i H.length with h1|h1
  ·have hs:(S++[((3:Int),(b.2.2.2.2.1.length:Int)),(3,(b.2.2.2.2.1.length:Int))])[i]?=some S[i]:=by
    rw[f8 (by omega),cD]
   have hk:=hSk S[i] (dP _)
   have e:((ĩ (S[i]).1 (3:Int))&&((ĩ (S[i]).2 (b.2.2.2.2.1.length:Int))&&true))=false:=by
    simp[ĩ]; omega
   have e1:(L.take i).take H.length=L.take i:=dS (by rw[cW]; omega);have e2:(L.take (i+1)).take H.length=L.take (i+1):=dS (by rw[cW]; omega);rw[Ì hs,e,Þ (by rfl),e1,e2,ģ (Ø (by rw[cW]; simp; omega)),Ñ hi (by omega),take_succ hl]
  ·have hs:(S++[((3:Int),(b.2.2.2.2.1.length:Int)),(3,(b.2.2.2.2.1.length:Int))])[i]?=some ((3:Int),(b.2.2.2.2.1.length:Int)):=by
    rw[fY (by omega)]
    have:i-S.length=0∨i-S.length=1:=by omega
    rcases this with e|e<;>rw[e]<;>rfl
   have e:((ĩ (3:Int) (3:Int))&&((ĩ (b.2.2.2.2.1.length:Int) (b.2.2.2.2.1.length:Int))&&true))=true:=by simp[ĩ]
   have e1:(L.take i).take H.length=(L.take (i+1)).take H.length:=by
    rw[List.take_take,List.take_take];congr 1;omega
   rw[Ì hs];dsimp only;rw[e,Õ (by rfl),Ñ hi (by omega),e1]
 ·try dsimp only
  unfold kB;rw[ê,List.take_length,hL];simp
theorem Vi {B:Ü} (hr:Wq B) (n:Int×Int) {c:Cmp} (hA:c.2.2.1.length≤1000) (hB:c.2.2.2.1.length≤1000):sU (B,J6 B) n c=some (Sg B n c):=by
 unfold sU F0 Sg;have hs:=hr.good.size;rw[show(B,J6 B).1=B from rfl,aaL hs hr.num hA hB,À]
 by_cases hp:(į B c).2=0
 ·obtain⟨g1,g2⟩:=nM hp;have ho:=Hr hp
  have e1:xX B (È c)=(ë B (È c),0):=by
   unfold xX;rw[if_neg (by simp[(à B).2 g1]),if_neg (by simp[(à _).2 g2])]
  have hn2:∀g∈(ë B (È c)).2.1,I64 g.2.2.2.2.1.1:=hr.num;have hC:=g2.nC
  have hw:(((ë B (È c)).2.2.2.2.1.length:Int)-1)=(B.2.2.2.2.1.length:Int):=by simp[ë]
  have hSays:afj (ë B (È c)) (B.2.2.2.2.1.length:Int)=(ω B (È c),0):=by
   have e:rA (ë B (È c)) (B.2.2.2.2.1.length:Int)=(È c,0):=by
    unfold rA;rw[if_neg (by simp[(à _).2 g2]),if_neg (by simp[ë]; omega)];simp[ë]
   unfold afj;rw[e,if_neg (by simp)];rfl
  have hCancel:Nj c.2.2.1 c.2.2.2.1=(Ď c.2.2.1 c.2.2.2.1,Ď c.2.2.2.1 c.2.2.1,0):=by
   have hnu:=(km _).1 (g2.nums (ye (c:=È c)));have h6:iR c.2.2.1=true∧iR c.2.2.2.1=true:=⟨hnu.2.2.2.2.2.1,hnu.2.2.2.2.2.2⟩;unfold Nj;rw[h6.1,h6.2];rfl
  rw[Õ (by rw[hp]; rfl),if_neg (by simp[hp]),show nE B (c.1,c.2.1,c.2.2.1,c.2.2.2.1,(0:Int),c.2.2.2.2.2)=nE B (È c) from rfl,adA hs hr.num (c:=È c) hA hB,À,e1];dsimp only;rw[Õ (by rfl),á,hw,Û (by omega) (by omega),agQ (g2.inn hn2),À,hSays,Wh (by omega) (by omega),À,hCancel,pm (g2.inn hn2),À,i7 g2];dsimp only;refine(acC g2 _).trans ?_;have ex:cx (ë B (È c)) (È c)=atP (Ë (ë B (È c))) (Ď c.2.2.1 c.2.2.2.1) c.2.1:=rfl;have ey:cy (ë B (È c)) (È c)=atP (Ë (ë B (È c))) (Ď c.2.2.2.1 c.2.2.1) c.2.1:=rfl;rw[TJ g2 hn2,À,TJ g2 hn2,À,IE g2 hn2,À,←ex,←ey,Zb g1 g2 ho _ (ę _) (ċ _ n),À,Zb g1 g2 ho _ (ċ _ n) (ę _),À];rfl
 ·rw[Þ (bne_iff_ne.2 hp),if_pos hp];rfl
abbrev afn:Type:=Ü×(Int×Int)×Bool×Int×List Int
def ac8:afn:=(nJ,(0,0),false,0,[])
def AF (L:List Lk):Int→Int→List Int→Int×Int×Bool
 |u,s,[]=>(u,s,true)
 |u,s,i::t=>if (L[i.toNat]?.getD (0,0,0)).1=u then AF L (L[i.toNat]?.getD (0,0,0)).2.1 (s+(L[i.toNat]?.getD (0,0,0)).2.2) t else(0,0,false)
def V5 (L:List Lk) (i:Int):Bool:=decide (i<0)||decide ((L.length:Int)≤i)
def kH (L:List Lk) (l:List Int):Int:=if 80<l.length then 2 else if l.any (V5 L) then 1 else 0
def Ŷ (L:List Lk) (u v:Int) (l:List Int):Int×Int :=
 if kH L l≠0 then(0,kH L l) else if (AF L u 0 l).2.2=true∧(AF L u 0 l).1=v then((AF L u 0 l).2.1,0) else(0,8)
def afJ (u:Int) (w:Int×Int×Bool):Int:=if w.2.2=true∧w.1=u∧w.2.1<0 then 0 else 8
def uU (L:List Lk) (l:List Int):Int :=
 if kH L l≠0 then kH L l else match l with
 |[]=>8
 |i::_=>afJ (L[i.toNat]?.getD (0,0,0)).1 (AF L (L[i.toNat]?.getD (0,0,0)).1 0 l)
section
variable {L:List Lk} {N:Nat}
def PN (N:Int) (hL:L.length≤1000) (l:List Int):o9 (N,L) l=some (kH L l):=by
 unfold o9 BC kH;dsimp only;rw[á]
 by_cases h:80<l.length
 ·rw[Þ (decide_eq_true (by omega)),if_pos h]
 ·rw[Õ (decide_eq_false (by omega)),if_neg h,←á l];refine(gK l (V5 L) (fun z=>ifb (ige z 0) (some 1) (some 0)) (some 1) (some 0) (fun j=>by rw[show ige (j:Int) 0=true from decide_eq_true (by omega)]; rfl) (fun i a hi ha kn=>?_) (fun kn=>?_)).trans ?_
  ·try dsimp only
   unfold l9 V5;rw[Ö hi,Ì ha,Ñ hi (by omega),á,Ĵ,Ĵ]
   by_cases h1:a<0
   ·simp[ilt,h1]
   ·by_cases h2:(L.length:Int)≤a
    ·simp[ilt,ige,h1,h2]
    ·simp[ilt,ige,h1,h2]
  ·try dsimp only
   unfold l9;rw[ê]
  ·cases l.any (V5 L)<;>rfl
def XF {l:List Int} (h:kH L l=0):l.length≤80∧∀i∈l,0≤i∧i.toNat<L.length:=by
 unfold kH at h
 split at h
 ·omega
 ·rename_i h1
  split at h
  ·omega
  ·rename_i h2;refine⟨by omega,fun i hi=>?_⟩;have:=eN.1 (ez.2 h2) i hi;simp[V5] at this;omega
def aa0 (hS:gW L N) (u:Int) {l:List Int} (h:kH L l=0):E7 ((N:Int),L) u l=some (AF L u 0 l):=by
 obtain⟨hl,hi⟩:=XF h;unfold E7 Rh;dsimp only
 have:=sO (f:=fun(v7:Int×Int×Int) kk11=>tV l (Ô l) L v7.1 v7.2.1 v7.2.2 (fun u8 u9 u10=>kk11 (u8,u9,u10)) (fun z5=>some (z5.1,z5.2.1,z5.2.2)) (fun z6=>some (z6.1,z6.2,true)))
  (F:=fun v=>some (AF L v.1 v.2.1 (l.drop v.2.2.toNat))) (fun v=>∃i:Nat,v.2.2=i∧i≤l.length∧(-(i*4503599627370496)≤v.2.1∧v.2.1≤i*4503599627370496)) (fun v=>l.length-v.2.2.toNat) (fun v hv kn hk=>?_) (x:=(u,(0:Int),(0:Int))) ⟨0,rfl,by omega,by simp⟩
 ·exact this
 ·obtain⟨w,s,n⟩:=v;obtain⟨i,e,h1,h2⟩:=hv;dsimp only at e h2 hk ⊢;subst e;rw[Int.toNat_natCast] at hk ⊢;unfold tV;rcases Nat.lt_or_ge i l.length with h3|h3
  ·have ha:l[i]?=some l[i]:=List.getElem?_eq_getElem h3;have hd:l.drop i=l[i]::l.drop (i+1):=List.drop_eq_getElem_cons h3;rw[hd];have hx:=hi l[i] (List.getElem_mem _);generalize l[i]=a at ha hx;have hg:L[a.toNat]?=some L[a.toNat]:=List.getElem?_eq_getElem hx.2;have hm:=hS.most _ (List.mem_of_getElem? hg);generalize L[a.toNat]=x at hg hm;rw[Ö h3,Ì ha,lU hx.1 hg];unfold AF;rw[hg];simp only[Option.getD_some]
   by_cases hc:x.1=w
   ·rw[Õ (by rw[hc]; exact bne_self_eq_false' _),if_pos hc,Û (by omega) (by omega),Ñ h3 (by omega),hk _ ⟨i+1,by push_cast; rfl,h3,by dsimp only; push_cast; omega⟩ (by simp; omega)];simp
   ·rw[Þ (bne_iff_ne.2 hc),if_neg hc]
  ·obtain rfl:i=l.length:=by omega
   rw[ê,gx];rfl
def aa1 (hS:gW L N):∀(l:List Int) (u s B:Int),-B≤s∧s≤B→-(B+l.length*4503599627370496)≤(AF L u s l).2.1∧(AF L u s l).2.1≤B+l.length*4503599627370496
 |[],u,s,B,h=>by simp[AF]; omega
 |i::t,u,s,B,h=>by
  unfold AF
  have hm : -4503599627370496≤(L[i.toNat]?.getD (0,0,0)).2.2∧(L[i.toNat]?.getD (0,0,0)).2.2≤4503599627370496:=by
   cases hg:L[i.toNat]? with
   |none=>simp
   |some x=>exact hS.most x (cM hg)
  split
  ·have:=aa1 hS t (L[i.toNat]?.getD (0,0,0)).2.1 (s+(L[i.toNat]?.getD (0,0,0)).2.2) (B+4503599627370496) (by omega);rw[cN];push_cast;omega
  ·dsimp only;omega
def Fy (hS:gW L N) {u v:Int} (hu:0≤u∧u<N) (hv:0≤v∧v<N) (l:List Int):jv ((N:Int),L) u v l=some (Ŷ L u v l):=by
 have hl3:=hS.len;unfold jv rc Ŷ
 have e1:(decide (0≤u)&&decide (u<(N:Int)))=true:=by simp[hu.1,hu.2]
 have e2:(decide (0≤v)&&decide (v<(N:Int)))=true:=by simp[hv.1,hv.2]
 rw[ji hS,À,Õ (by rfl),KD,À,e1,Õ (by rfl),KD,À,e2,Õ (by rfl),PN _ (by omega),À]
 by_cases h:kH L l=0
 ·rw[Õ (by rw[h]; rfl),if_neg (by simp[h]),aa0 hS u h,À]
  cases h1:(AF L u 0 l).2.2 with
  |false=>rw[Þ (by rfl),if_neg (by simp)]
  |true =>
   rw[Õ (by rfl)]
   by_cases h2:(AF L u 0 l).1=v
   ·rw[Õ (by rw[h2]; exact bne_self_eq_false' _),if_pos ⟨rfl,h2⟩]
   ·rw[Þ (bne_iff_ne.2 h2),if_neg (fun h=>h2 h.2)]
 ·rw[Þ (bne_iff_ne.2 h),if_pos h]
def Mn {ρ α:Type} (x:α) (t:List α) (f:α→Option ρ):û (x::t) (0:Int) f=f x:=rfl
def OL (hS:gW L N) (l:List Int):me ((N:Int),L) l=some (uU L l):=by
 have hl3:=hS.len;unfold me qZ uU;rw[ji hS,À,Õ (by rfl),PN _ (by omega),À]
 by_cases h:kH L l=0
 ·rw[Õ (by rw[h]; rfl),if_neg (by simp[h])]
  cases l with
  |nil=>rw[á]; rfl
  |cons i t =>
   have hx:=(XF h).2 i (by simp);have hg:L[i.toNat]?=some L[i.toNat]:=List.getElem?_eq_getElem hx.2;generalize L[i.toNat]=x at hg;rw[á,Õ (beq_eq_false_iff_ne.2 (by simp; omega)),Mn,lU hx.1 hg,aa0 hS x.1 h,À];dsimp only;rw[hg];dsimp only[Option.getD_some];generalize AF L x.1 0 (i::t)=w;obtain⟨e,sum,ok⟩:=w;unfold afJ;dsimp only
   cases ok with
   |false=>rw[Þ (by rfl),if_neg (by simp)]
   |true =>
    rw[Õ (by rfl)]
    by_cases h2:e=x.1
    ·rw[Õ (by rw[h2]; exact bne_self_eq_false' _)]
     by_cases h3:sum<0
     ·rw[Õ (decide_eq_false (by omega)),if_pos ⟨rfl,h2,h3⟩]
     ·rw[Þ (decide_eq_true (by omega)),if_neg (fun h=>h3 h.2.2)]
    ·rw[Þ (bne_iff_ne.2 h2),if_neg (fun h=>h2 h.2.1)]
 ·rw[Þ (bne_iff_ne.2 h),if_pos h]
end
def oa (c:afn):Int :=
 if ß c.1≠0 then ß c.1 else if jC c.1 c.2.1.1 c.2.1.2=0 then 5 else
 if c.2.2.1 then(if Ŷ (Ý c.1) 0 (jC c.1 c.2.1.1 c.2.1.2) c.2.2.2.2=(c.2.2.2.1,0) then 0 else 8)
 else(if Ŷ (Ý c.1) (jC c.1 c.2.1.1 c.2.1.2) 0 c.2.2.2.2=(-c.2.2.2.1,0) then 0 else 8)
def pq (c:afn):Int :=
 if ß c.1≠0 then ß c.1 else if c.2.1≠(0,0)∨c.2.2.1=true∨c.2.2.2.1≠0 then 1 else if uU (Ý c.1) c.2.2.2.2=0 then 0 else 8
def X9 (b:Ü) (c:afn):Bool×Int :=
 if ß b≠0 then(false,ß b) else
 if c.2.1=(0,0) then(if pq c≠0 then(false,pq c) else(aeg c.1 b,0)) else(if oa c≠0 then(false,oa c) else(aeg c.1 b,0))
def wr_neg {n:Int} (h:I64 n):aaQ (0-n)=if n = -9223372036854775808 then n else -n:=by
 have e:aaQ (0-n)=if (0-n) % 18446744073709551616≥9223372036854775808 then(0-n) % 18446744073709551616-18446744073709551616 else(0-n) % 18446744073709551616:=by
  simp[aaQ,IntKind.wrap,IntKind.bits,IntKind.signed]
 rw[e];unfold I64 at h
 split<;>split<;>omega
def IF {c:afn} (hI:In c.1) (hv:I64 c.2.2.2.1):kM c=some (oa c):=by
 unfold kM tS oa;rw[Φ hI.size hI.num,À]
 by_cases hc:ß c.1=0
 ·have hg:=(à c.1).1 hc;rw[Õ (by simp[ine,hc]),if_neg (show ¬(ß c.1≠0) from fun h=>h hc),tg hI,À,po hg,pm hI,À,i7 hg];dsimp only
  by_cases h0:jC c.1 c.2.1.1 c.2.1.2=0
  ·rw[if_pos h0,if_pos h0]; rfl
  ·have hN:=hg.sys;have hr:=ċ c.1 c.2.1;have hz:=ę c.1;rw[if_neg h0,if_neg h0,Õ (by rfl),show(((Ë c.1).length:Int)+1)=(((Ë c.1).length+1:Nat):Int) by push_cast; rfl];dsimp only;rw[show(∀f:Int→Option Int,ck (0-c.2.2.2.1) f=f (aaQ (0-c.2.2.2.1))) from fun f=>rfl,wr_neg hv]
   have key:∀(u v:Int) (t t':Int),(t'=t∨(t' = -9223372036854775808∧t=9223372036854775808))→(ifb (ine (Ŷ (Ý c.1) u v c.2.2.2.2).2 0) (some (8:Int)) (ifb (ine (Ŷ (Ý c.1) u v c.2.2.2.2).1 t') (some 8) (some 0)))=some (if Ŷ (Ý c.1) u v c.2.2.2.2=(t,0) then 0 else 8):=by
    intro u v t t' ht
    have hb : -9000000000000000000≤(Ŷ (Ý c.1) u v c.2.2.2.2).1∧(Ŷ (Ý c.1) u v c.2.2.2.2).1≤9000000000000000000:=by
     unfold Ŷ
     split
     ·simp
     ·rename_i hi
      split
      ·have:=aa1 hN c.2.2.2.2 u 0 0 (by simp);have:=(XF (by simpa using hi)).1;dsimp only;omega
      ·simp
    generalize Ŷ (Ý c.1) u v c.2.2.2.2=p at hb ⊢
    by_cases h2:p.2=0
    ·rw[Õ (by rw[h2]; rfl)]
     by_cases h1:p.1=t'
     ·have:p=(t,0):=Prod.ext (by rcases ht with h|h<;>omega) h2
      rw[Õ (by rw[h1]; exact bne_self_eq_false' _),if_pos this]
     ·have:¬p=(t,0):=fun e=>by
       have e1:p.1=t:=by rw[e]
       rcases ht with h|h<;>omega
      rw[Þ (bne_iff_ne.2 h1),if_neg this]
    ·have:¬p=(t,0):=fun e=>h2 (by rw[e]);rw[Þ (bne_iff_ne.2 h2),if_neg this]
   unfold I64 at hv
   cases c.2.2.1 with
   |true =>
    rw[Ĥ,Fy hN hz hr,À,key _ _ _ _ (.inl rfl)];rfl
   |false =>
    rw[ã,Fy hN hr hz,À,key _ _ (-c.2.2.2.1) _ (by split<;>omega)]
    rfl
 ·rw[Þ (by simp[ine,hc]),if_pos hc]
def SZ {c:afn} (hI:In c.1):md c=some (pq c):=by
 unfold md qU pq;rw[Φ hI.size hI.num,À]
 by_cases hc:ß c.1=0
 ·have hg:=(à c.1).1 hc;rw[Õ (by simp[ine,hc]),if_neg (show ¬(ß c.1≠0) from fun h=>h hc)]
  by_cases h1:c.2.1=(0,0)
  ·have e1:(!((ĩ c.2.1.1 0)&&((ĩ c.2.1.2 0)&&true)))=false:=by rw[h1]; rfl
   rw[e1,ã]
   cases h2:c.2.2.1 with
   |true=>rw[Ĥ,if_pos (.inr (.inl rfl))]
   |false =>
    rw[ã]
    by_cases h3:c.2.2.2.1=0
    ·rw[Õ (by rw[h3]; rfl),if_neg (by simp[h1,h3]),pm hI,À,i7 hg,show(((Ë c.1).length:Int)+1)=(((Ë c.1).length+1:Nat):Int) by push_cast; rfl];dsimp only;rw[OL hg.sys,À]
     by_cases h4:uU (Ý c.1) c.2.2.2.2=0
     ·rw[Õ (by rw[h4]; rfl),if_pos h4]
     ·rw[Þ (bne_iff_ne.2 h4),if_neg h4]
    ·rw[Þ (bne_iff_ne.2 h3),if_pos (.inr (.inr h3))]
  ·have e1:(!((ĩ c.2.1.1 0)&&((ĩ c.2.1.2 0)&&true)))=true:=by
    rw[Prod.ext_iff] at h1;simp[ĩ];dsimp only at h1;omega
   rw[e1,Ĥ,if_pos (.inl h1)]
 ·rw[Þ (by simp[ine,hc]),if_pos hc]
def adB {b:Ü} {c:afn} (hb:In b) (hI:In c.1) (hv:I64 c.2.2.2.1):yx b c=some (X9 b c):=by
 unfold yx F5 X9;rw[Φ hb.size hb.num,À]
 by_cases hc:ß b=0
 ·rw[Õ (by simp[ine,hc]),if_neg (show ¬(ß b≠0) from fun h=>h hc)]
  by_cases h1:c.2.1=(0,0)
  ·have e1:((ĩ c.2.1.1 0)&&((ĩ c.2.1.2 0)&&true))=true:=by rw[h1]; rfl
   rw[e1,Ĥ,if_pos h1,SZ hI,À]
   by_cases h2:pq c=0
   ·rw[Õ (by rw[h2]; rfl),if_neg (by simp[h2]),part_ok hI.size hb.size,À]
   ·rw[Þ (bne_iff_ne.2 h2),if_pos h2]
  ·have e1:((ĩ c.2.1.1 0)&&((ĩ c.2.1.2 0)&&true))=false:=by
    rw[Prod.ext_iff] at h1;simp[ĩ];dsimp only at h1;omega
   rw[e1,ã,if_neg h1,IF hI hv,À]
   by_cases h2:oa c=0
   ·rw[Õ (by rw[h2]; rfl),if_neg (by simp[h2]),part_ok hI.size hb.size,À]
   ·rw[Þ (bne_iff_ne.2 h2),if_pos h2]
 ·rw[Þ (by simp[ine,hc]),if_pos hc]
def Ka (b:Ü) (l:List Int):List (Int×Int):=l.map fun i=>(ŕ b)[i.toNat]?.getD (0,0)
def ZL {b:Ü} (hg:Ğ b) (hn:∀g∈b.2.1,I64 g.2.2.2.2.1.1) {l:List Int} (hl:l.length≤1000) (hi:∀i∈l,0≤i∧i.toNat<(Ý b).length):oZ b l=some (Ka b l):=by
 unfold oZ A5;rw[pm (hg.inn hn),À,i7 hg];refine Ą l (fun i=>Ka b (l.take i)) _ rfl (fun i a hlt ha kn=>?_) (fun kn=>?_)
 ·try dsimp only
  unfold l7;have hx:=hi a (List.mem_of_getElem? ha);have hs:(ŕ b)[a.toNat]?=some ((ŕ b)[a.toNat]'(by rw[Qg hg]; exact hx.2)):=List.getElem?_eq_getElem _;generalize (ŕ b)[a.toNat]'(by rw[Qg hg]; exact hx.2)=x at hs
  have hlen:(Ka b (l.take i)).length≤1000:=by unfold Ka; rw[List.length_map,List.length_take]; omega
  rw[Ö hlt,Ì ha,lU hx.1 hs,ģ (show è ((Ka b (l.take i)).length+[x].length)=true from Ø (show(Ka b (l.take i)).length+1≤4294967296 by omega)),Ñ hlt (by omega),take_succ ha];unfold Ka;rw[List.map_append,List.map_singleton,hs];rfl
 ·try dsimp only
  unfold l7;rw[ê,List.take_length]
def src_ok {b:Ü}:∀s∈ŕ b,agP b s:=by
 intro s hs;unfold ŕ at hs;rcases List.mem_append.1 hs with h|h
 ·have:=Vs s h; exact .inl this
 ·have:=VN s h; exact .inr this
def adZ {b:Ü} (hg:Ğ b) {l:List Int} (hi:∀i∈l,0≤i∧i.toNat<(Ý b).length):∀s∈Ka b l,agP b s:=by
 intro s hs;obtain⟨i,h1,rfl⟩:=dX.1 hs;have hx:=hi i h1;have hsx:(ŕ b)[i.toNat]?=some ((ŕ b)[i.toNat]'(by rw[Qg hg]; exact hx.2)):=cD _;rw[hsx];exact src_ok _ (dP _)
section
variable {L:List Lk} {N:Nat}
def GU (R:Nat→List Int) (good:Int→Bool):∀(k:Nat) (u sum:Int) (out:List Int),(∀i∈out,0≤i∧i.toNat<L.length)→(∀i∈rl L R good k u sum out,0≤i∧i.toNat<L.length)∧(rl L R good k u sum out).length≤out.length+k
 |0,u,sum,out,h=>⟨h,by simp[rl]⟩
 |k+1,u,sum,out,h=>by
  unfold rl
  cases hn:Ns L (R k) good u sum with
  |none =>
   have:=GU R good k u sum out h;exact⟨this.1,by have:=this.2; dsimp only; omega⟩
  |some i =>
   have hi:i<L.length:=by
    unfold Ns at hn;exact(List.findIdx?_eq_some_iff_getElem.1 hn).1
   have:=GU R good k (L[i]?.getD (0,0,0)).2.1 (sum+(L[i]?.getD (0,0,0)).2.2) (out++[(i:Int)]) (fun j hj=>by
    rcases cI.1 hj with h1|h1
    ·exact h j h1
    ·simp at h1; subst h1; simp; exact hi)
   exact⟨this.1,by have:=this.2; simp at this; dsimp only; omega⟩
def VQ (N:Nat) (u v:Int):(∀i∈(Ni L N u v).1,0≤i∧i.toNat<L.length)∧(Ni L N u v).1.length≤N:=by
 unfold Ni
 split
 ·simp
 ·cases h:(nl L N v N).findIdx? (fun x=>gv x u==(gV L N u v).1) with
  |none=>simp
  |some k =>
   have hk:=(List.findIdx?_eq_some_iff_getElem.1 h).1;rw[ka] at hk;have:=GU (L:=L) (exL L N v) (fun n=>ieq n (gV L N u v).1) k u 0 [] (by simp);exact⟨this.1,by have:=this.2; simp at this; dsimp only; omega⟩
end
def IA (B:Ü) (n:Int×Int) (upper:Bool):List Int :=
 if upper then(Ni (Ý B) ((Ë B).length+1) 0 (jC B n.1 n.2)).1 else(Ni (Ý B) ((Ë B).length+1) (jC B n.1 n.2) 0).1
def wi (B:Ü) (n:Int×Int) (upper:Bool):Ü:=cutP B (Ka B (IA B n upper)) [n]
def certR (B:Ü) (n:Int×Int) (upper:Bool):afn:=(wi B n upper,n,upper,(if upper then(ivR B n).2 else(ivR B n).1),IA (wi B n upper) n upper)
def nN (b:Ü) (n:Int×Int) (upper:Bool):afn×Int :=
 if (Č b [n]).2≠0 then(ac8,(Č b [n]).2) else
 if ß (wi (Č b [n]).1 n upper)≠0 then(ac8,ß (wi (Č b [n]).1 n upper)) else
 if Ő (Ý (wi (Č b [n]).1 n upper)) ((Ë (wi (Č b [n]).1 n upper)).length+1) then(certR (Č b [n]).1 n upper,0) else(ac8,9)
def aax {ρ:Type}:@qW ρ=@ā ρ:=rfl
def abN {ρ:Type} (K:Option ρ):Í (fun(v23:Int) kk25=>qV (0:Int) v23 (fun u24=>kk25 u24) (fun _=>K)) (0:Int)=K:=by
 refine ť (fun x=>x=0) (fun _=>0) (fun x hx=>.inl fun kn=>?_) rfl;rw[hx];rfl
def Yl {B:Ü} (h:Ğ B) (hn:∀g∈B.2.1,I64 g.2.2.2.2.1.1) (n:Int×Int) (upper:Bool):kO (B,J6 B) n upper=some (IA B n upper):=by
 unfold kO tT IA;rw[IE h hn,À,show(B,J6 B).2=J6 B from rfl,J5]
 cases upper with
 |true=>rw[Ĥ,ZE h.sys (ę B) (ċ B n),À]; rfl
 |false=>rw[ã,ZE h.sys (ċ B n) (ę B),À]; rfl
def aav {B:Ü} (h:Ğ B) (n:Int×Int) (upper:Bool):(∀i∈IA B n upper,0≤i∧i.toNat<(Ý B).length)∧(IA B n upper).length≤60:=by
 have hN:=h.sys.n60;unfold IA
 split
 ·have:=VQ (L:=Ý B) ((Ë B).length+1) 0 (jC B n.1 n.2);exact⟨this.1,by have:=this.2; omega⟩
 ·have:=VQ (L:=Ý B) ((Ë B).length+1) (jC B n.1 n.2) 0;exact⟨this.1,by have:=this.2; omega⟩
def Mg (w:List Int):∀(l:List Cmp) (i:Nat),∀c∈BU w i l,c∈l
 |[],i,c,h=>by simp[BU] at h
 |a::l,i,c,h=>by
  simp only[BU] at h
  split at h
  ·rcases cJ.1 h with h|h
   ·rw[h]; simp
   ·exact dK _ (Mg w l (i+1) c h)
  ·exact dK _ (Mg w l (i+1) c h)
def afG {b:Ü} (h:In b) (ss:List (Int×Int)) {looks:List (Int×Int)} (hl:looks.length≤1000):In (cutP b ss looks):=by
 obtain⟨hs,hn⟩:=h;have g1:=hs.gauges; have g2:=hs.uses; have g3:=hs.loans; have g4:=hs.compares;unfold cutP;refine⟨⟨?_,?_,?_,?_,hl,fun c hc=>hs.piles c (Mg _ _ _ c hc)⟩,fun g hg=>hn g (List.mem_filter.1 hg).1⟩
 ·exact dj (dw _ _) g1
 ·exact dj (dw _ _) g2
 ·exact dj (dw _ _) g3
 ·exact dj (Mh _ _ _) g4
def aaN {b:Ü} (hI:In b) (n:Int×Int) (upper:Bool):uK b n upper=some (nN b n upper):=by
 unfold uK BA nN;rw[aax];refine(pC hI (ns:=[n]) (by simp) (fun e=>some (ac8,e)) (fun e he=>by rw[ģ (by simp[ine,he])]; rfl) (fun z he=>by rw[ģ (by simp[ine,he])]; rfl) (fun _ _ _=>rfl)).trans ?_
 split
 ·rfl
 ·rename_i e;have hr:=(Λ hI (by simpa using e)).1;dsimp only;generalize (Č b [n]).1=B at hr ⊢;have hci:=aav hr.good n upper;have hpi:In (wi B n upper):=afG (hr.good.inn hr.num) _ (by simp)
  rw[uJ,show((((Ë B).length:Int)+1,Ý B):Sys)=J6 B from rfl,Yl hr.good hr.num,À,ZL hr.good hr.num (by omega) hci.1,À,
   cut_ok hr.good.size (by unfold Ka; rw[List.length_map]; omega) (by simp) (adZ hr.good hci.1),À,show cutP B (Ka B (IA B n upper)) [n]=wi B n upper from rfl,Φ hpi.size hpi.num,À]
  by_cases hc:ß (wi B n upper)=0
  ·have hg:=(à _).1 hc;rw[Õ (by simp[ine,hc]),if_neg (show ¬(ß (wi B n upper)≠0) from fun h=>h hc)];refine(abN _).trans ?_;rw[pm hpi,À,i7 hg,Õ (by rfl)];dsimp only;rw[show((((Ë (wi B n upper)).length:Int)+1,Ý (wi B n upper)):Sys)=J6 (wi B n upper) from rfl,J5 (wi B n upper),Fx hg.sys,À]
   cases ho:Ő (Ý (wi B n upper)) ((Ë (wi B n upper)).length+1) with
   |false=>rw[if_neg (by simp)]; rfl
   |true =>
    rw[if_pos rfl,←J5 (wi B n upper),Õ (by rfl),PH hr,À,Yl hg hpi.num,À]
    cases upper with
    |true=>rw[Ĥ,ET hr,À]; rfl
    |false=>rfl
  ·rw[Þ (by simp[ine,hc]),if_pos hc,Þ (by simp[ine,hc])];rfl
def aas {L:List Lk} {N:Nat} (h:gW L N) (ho:Ő L N=true):xK ((N:Int),L)=some ([],5):=by
 have hN:=h.n60;unfold xK Ls;rw[ji h,À,Õ (by rfl),AH h.links h.n1 (by omega),À,if_pos ho];rfl
def WF {b:Ü} (hg:Ğ b) (hn:∀g∈b.2.1,I64 g.2.2.2.2.1.1) (ho:Ő (Ý b) ((Ë b).length+1)=true):E6 b=some (ac8,5):=by
 unfold E6 Ld;rw[pm (hg.inn hn),À,i7 hg,Õ (by rfl),show((((Ë b).length:Int)+1,Ý b),ŕ b,(0:Int)).1=J6 b from rfl,J5,aas hg.sys ho,À];rfl
def gv_bd {x:List Int} {m:Int} (hm:0≤m) (h:∀a∈x,-m≤a∧a≤m) (v:Int) : -m≤gv x v∧gv x v≤m:=by
 unfold gv
 cases hv:x[v.toNat]? with
 |none=>simp only[Option.getD_none]; omega
 |some a=>simp only[fI]; exact h a (cM hv)
section
variable {b:Ü} {c d:Cmp} {s:Int×Int}
def af0 (h:Pred b c s) : -10000000000000000≤s.1∧s.1≤s.2∧s.2≤10000000000000000:=by
 have q:=h.good2.cmp (ye (c:=È c));obtain⟨_,_,b1,b2,b3⟩:=Hp (b:=b) h.good.film (c:=È c) ⟨q.nums,q.r1,q.r2⟩;have e1:Xz b c=MT (Ľ b (È c)).1+(j7 b (È c)).1-(È c).2.2.2.2.2.1:=rfl;have e2:BW b c=(Ľ b (È c)).2.1 / (Ľ b (È c)).2.2+(j7 b (È c)).2+(È c).2.2.2.2.2.1:=rfl;have o:=h.order;have n:=h.ends;have bd:=h.bd;omega
end
def κ (e:End):List Int:=[e.1-e.2.1,e.2.2-e.1,Int.tdiv (e.2.2-e.2.1) 2,Int.tdiv (e.2.2-e.2.1) 2-1,Int.tdiv (e.2.2-e.2.1) 2+1]
def rJ (e:End) (n:Int):List Int:=[n-e.2.1,e.2.2-n]
def atE (e:End) (d:Int):Int:=min e.1 (min (e.2.1+d) (e.2.2-d))
def Kc (w:Hf) (d:Int):Int×Int:=(-(atE w.2.2 d),atE w.2.1 d)
def aaf (r:Int×Int) (n:Int):List Int:=[n-2,n-1,n,n+1,n+2].filter fun d=>decide (r.1<d)&&decide (d<r.2)
def Nt (r:Int×Int) (l:List Int):List Int:=[r.1,r.2]++l.flatMap (aaf r)
def Yj (w:Hf) (l:List Int):Int:=l.foldl (fun m d=>max m ((Kc w d).2-(Kc w d).1)) (-1)
def aaY (w:Hf):Int:=Yj w (Nt w.1 (κ w.2.1++κ w.2.2))
def Sm (n:Int):Prop:=-100000000000000000≤n∧n≤100000000000000000
structure SX (e:End):Prop where
 s:Sm e.1
 u:Sm e.2.1
 d:Sm e.2.2
structure SS (w:Hf):Prop where
 lo:Sm w.1.1
 hi:Sm w.1.2
 high:SX w.2.1
 low:SX w.2.2
def Th (n:Int) : -1≤n-2*Int.tdiv n 2∧n-2*Int.tdiv n 2≤1:=by
 have h1:=Int.tmod_add_mul_tdiv n 2;have h2:=Int.tmod_two_eq n;omega
def Jz {e:End} (h:SX e):iq e=some (κ e):=by
 obtain⟨⟨a1,a2⟩,⟨b1,b2⟩,c1,c2⟩:=h;have h2:=Th (e.2.2-e.2.1);unfold iq tM;rw[Û (by omega) (by omega),Û (by omega) (by omega),Û (by omega) (by omega),Û (by omega) (by omega),Û (by omega) (by omega),Û (by omega) (by omega)];rfl
def JL {e:End} (h:SX e) {n:Int} (hn : -1000000000000000000≤n∧n≤1000000000000000000):ir e n=some (rJ e n):=by
 obtain⟨⟨a1,a2⟩,⟨b1,b2⟩,c1,c2⟩:=h;unfold ir tN;rw[Û (by omega) (by omega),Û (by omega) (by omega)];rfl
def afO {e:End} (h:SX e) {d:Int} (hd:Sm d):sW e d=some (atE e d):=by
 obtain⟨⟨a1,a2⟩,⟨b1,b2⟩,c1,c2⟩:=h;obtain⟨d1,d2⟩:=hd;unfold sW F3;rw[Û (by omega) (by omega),Û (by omega) (by omega),GO,GO];unfold atE;congr 1;omega
def adx {e:End} (h:SX e) {d:Int} (hd:Sm d) : -200000000000000000≤atE e d∧atE e d≤100000000000000000:=by
 obtain⟨⟨a1,a2⟩,⟨b1,b2⟩,c1,c2⟩:=h;obtain⟨d1,d2⟩:=hd;unfold atE;omega
def abi {w:Hf} (h:SS w) {d:Int} (hd:Sm d):Ŏ w d=some (Kc w d):=by
 unfold Ŏ qN;have b1:=adx h.low hd;rw[afO h.low hd,À,Û (by omega) (by omega),afO h.high hd,À];unfold Kc;rw[Int.zero_sub]
def aeF (r:Int×Int) (n:Int):(aaf r n).length≤5:=dw _ _
def Mw (r:Int×Int):∀l:List Int,(l.flatMap (aaf r)).length≤l.length*5
 |[]=>by simp
 |n::l=>by
  have h1:=aeF r n;have h2:=Mw r l;rw[dQ,cG,cN];omega
def agc {ρ:Type} (r:Int×Int) {n:Int} (hn : -4000000000000000000≤n∧n≤4000000000000000000) {out:List Int} (ho:out.length≤1000) (K:List Int→Option ρ) :
 Í (fun(v9:(Val (.pair tI (.slice tI)))) kk12=>gP n r.1 r.2 v9.1 v9.2 (fun u10 u11=>kk12 (u10,u11)) K) (n-2,out)=K (out++aaf r n):=by
 let five:List Int:=[n-2,n-1,n,n+1,n+2]
 have hg:∀(i:Nat),i<5→five[i]?=some (n-2+i):=by
  intro i hi
  have:i=0∨i=1∨i=2∨i=3∨i=4:=by omega
  rcases this with rfl|rfl|rfl|rfl|rfl<;>simp only[five,eY,List.getElem?_cons_succ]<;>congr 1<;>omega
 refine ť (fun v=>∃i:Nat,i≤5∧v=(n-2+(i:Int),out++(five.take i).filter fun d=>decide (r.1<d)&&decide (d<r.2))) (fun v=>(n+3-v.1).toNat) ?_ ⟨0,by omega,by simp⟩;rintro v ⟨i,hi,rfl⟩;rcases dt i 5 with h5|h5
 ·refine .inr ⟨(n-2+((i+1:Nat):Int),out++(five.take (i+1)).filter fun d=>decide (r.1<d)&&decide (d<r.2)),⟨i+1,h5,rfl⟩,by dsimp only; omega,fun kn=>?_⟩;have hl:((five.take i).filter fun d=>decide (r.1<d)&&decide (d<r.2)).length≤5:=oX _ five i;dsimp only;unfold gP;rw[Û (by omega) (by omega),Þ (decide_eq_true (by omega)),take_succ (hg i h5),List.filter_append]
  have e0:n-2+(i:Int)+1=n-2+((i+1:Nat):Int):=by push_cast; omega
  by_cases h1:r.1<n-2+(i:Int)
  ·rw[Þ (show igt (n-2+(i:Int)) r.1=true from decide_eq_true h1)]
   by_cases h2:n-2+(i:Int)<r.2
   ·rw[Þ (show ilt (n-2+(i:Int)) r.2=true from decide_eq_true h2),ģ (Ø (by rw[cG]; simp only[dm]; omega)),Û (by omega) (by omega),e0];simp[h1,h2]
   ·rw[Õ (show ilt (n-2+(i:Int)) r.2=false from decide_eq_false h2),Û (by omega) (by omega),e0];simp[h1,h2]
  ·rw[Õ (show igt (n-2+(i:Int)) r.1=false from decide_eq_false h1),Û (by omega) (by omega),e0];simp[h1]
 ·refine .inl fun kn=>?_
  obtain rfl:i=5:=by omega
  dsimp only;unfold gP;rw[Û (by omega) (by omega),Õ (decide_eq_false (by omega))];rfl
def abW (w:Hf) {l:List Int} (hl:l.length≤100) (hn:∀n∈l,-2000000000000000000≤n∧n≤2000000000000000000):ju w l=some (Nt w.1 l):=by
 unfold ju qO;refine Ą l (fun i=>[w.1.1,w.1.2]++(l.take i).flatMap (aaf w.1)) _ rfl (fun i n hi ha kn=>?_) (fun kn=>?_)
 ·try dsimp only
  unfold jb;have hb:=hn n (List.mem_of_getElem? ha);have h5:=Mw w.1 (l.take i)
  have ht:(l.take i).length≤100:=by rw[cW]; omega
  rw[Ö hi,Ì ha,Û (by omega) (by omega)];refine(agc w.1 (by omega) (by rw[cG]; simp only[cN,dn]; omega) _).trans ?_;rw[Ñ hi (by omega),take_succ ha,ft,dh];simp
 ·try dsimp only
  unfold jb;rw[ê,List.take_length];rfl
def aeo {r:Int×Int} {l:List Int} {d:Int}:d∈Nt r l↔d=r.1∨d=r.2∨(r.1<d∧d<r.2∧∃n∈l,n-2≤d∧d≤n+2):=by
 unfold Nt aaf;simp only[List.mem_append,List.mem_cons,List.not_mem_nil,or_false,List.mem_flatMap,List.mem_filter,Bool.and_eq_true,decide_eq_true_eq];constructor
 ·rintro((h|h)|⟨n,hn,h,h1,h2⟩)
  ·exact .inl h
  ·exact .inr (.inl h)
  ·exact .inr (.inr ⟨h1,h2,n,hn,by omega,by omega⟩)
 ·rintro(h|h|⟨h1,h2,n,hn,h3,h4⟩)
  ·exact .inl (.inl h)
  ·exact .inl (.inr h)
  ·exact .inr ⟨n,hn,by omega,h1,h2⟩
def YQ (r:Int×Int) {l:List Int} (hl:l.length≤100):(Nt r l).length≤600:=by
 have:=Mw r l;unfold Nt;rw[List.length_append];simp only[List.length_cons,List.length_nil];omega
def abV {w:Hf} (h:SS w) {l:List Int}:∀d∈Nt w.1 l,Sm d:=by
 intro d hd;obtain⟨a1,a2⟩:=h.lo;obtain⟨b1,b2⟩:=h.hi;rcases aeo.1 hd with h|h|⟨h1,h2,_⟩
 ·rw[h]; exact⟨a1,a2⟩
 ·rw[h]; exact⟨b1,b2⟩
 ·exact⟨by omega,by omega⟩
def JA {e:End} (h:SX e):∀n∈κ e,-1000000000000000000≤n∧n≤1000000000000000000:=by
 obtain⟨⟨a1,a2⟩,⟨b1,b2⟩,c1,c2⟩:=h;have h2:=Th (e.2.2-e.2.1);intro n hn;unfold κ at hn;simp only[List.mem_cons,List.not_mem_nil,or_false] at hn;omega
def adR {w:Hf} (h:SS w):kK w=some (aaY w):=by
 unfold kK ot
 have hl:([κ w.2.1,κ w.2.2]:List (List Int)).flatten=κ w.2.1++κ w.2.2:=by simp
 have hll:(κ w.2.1++κ w.2.2).length=10:=rfl
 rw[Jz h.high,À,Jz h.low,À,n0 (by simp) (by rw[hl,hll]; omega),À,hl,abW w (by rw[hll]; omega) (fun n hn=>by
  rcases cI.1 hn with hn|hn
  ·have:=JA h.high n hn; omega
  ·have:=JA h.low n hn; omega),À]
 have hnl:=YQ w.1 (l:=κ w.2.1++κ w.2.2) (by rw[hll]; omega);have hsm:=abV h (l:=κ w.2.1++κ w.2.2);unfold aaY;generalize Nt w.1 (κ w.2.1++κ w.2.2)=l at hnl hsm ⊢;refine ť (fun v=>∃i:Nat,i≤l.length∧v=(Yj w (l.take i),(i:Int))) (fun v=>l.length-v.2.toNat) ?_ ⟨0,by omega,rfl⟩;rintro v ⟨i,hi,rfl⟩;rcases Nat.lt_or_ge i l.length with h2|h2
 ·have ha:l[i]?=some l[i]:=List.getElem?_eq_getElem h2;have hs:=hsm l[i] (List.getElem_mem _);generalize l[i]=d at ha hs;refine .inr ⟨(Yj w (l.take (i+1)),((i+1:Nat):Int)),⟨i+1,h2,rfl⟩,by dsimp only; omega,fun kn=>?_⟩;dsimp only;unfold iN;have b1:=adx h.low hs;have b2:=adx h.high hs;rw[Ö h2,Ì ha,show Ŏ ((w.1.1,w.1.2),(w.2.1.1,w.2.1.2.1,w.2.1.2.2),w.2.2.1,w.2.2.2.1,w.2.2.2.2) d=Ŏ w d from rfl,abi h hs,À,Û (by unfold Kc; dsimp only; omega) (by unfold Kc; dsimp only; omega),Ñ h2 (by omega),GP,take_succ ha];unfold Yj;rw[List.foldl_append];rfl
 ·refine .inl fun kn=>?_
  obtain rfl:i=l.length:=by omega
  dsimp only;unfold iN;rw[ê,List.take_length]
def Yi {b:Ü} {n:Int×Int} {c:Cmp} (hp:(į b c).2=0):SS (S8 b n c):=by
 obtain⟨g1,g2⟩:=nM hp;have ho:=Hr hp;have hb:=af0 (TH hp);have hx:=Az g2;have hy:=Ay g2;have b6:=abn g1 g2 ho
 have key:∀{s t:Int},0≤s∧s<((Ë (ë b (È c))).length+1:Nat)→0≤t∧t<((Ë (ë b (È c))).length+1:Nat)→SX (endP b (È c) s t):=by
  intro s t hs ht;have b1:=rk g1 g2 ho hs ht;have b2:=rk g1 g2 ho hs hy;have b3:=rk g1 g2 ho hx ht;have b4:=rk g1 g2 ho hs hx;have b5:=rk g1 g2 ho hy ht;unfold endP;exact⟨⟨by dsimp only; omega,by dsimp only; omega⟩,⟨by dsimp only; omega,by dsimp only; omega⟩,by dsimp only; omega,by dsimp only; omega⟩
 exact⟨⟨by show _≤(į b c).1.1; omega,by show(į b c).1.1≤_; omega⟩,⟨by show _≤(į b c).1.2; omega,by show(į b c).1.2≤_; omega⟩,key (ę _) (ċ _ n),key (ċ _ n) (ę _)⟩
def Zz (b:Ü) (n:Int×Int) (c:Cmp):Int×Int :=
 if (Č b [n]).2≠0 then(0,(Č b [n]).2) else if (į (Č b [n]).1 c).2≠0 then(0,(į (Č b [n]).1 c).2) else(aaY (S8 (Č b [n]).1 n c),0)
def adS {ρ:Type}:@wN ρ=@ā ρ:=rfl
def afi {b:Ü} (hI:In b) (n:Int×Int) {c:Cmp} (hA:c.2.2.1.length≤1000) (hB:c.2.2.2.1.length≤1000):xI b n c=some (Zz b n c):=by
 unfold xI K7 Zz;rw[adS];refine(pC hI (ns:=[n]) (by simp) (fun e=>some ((0:Int),e)) (fun e he=>by rw[ģ (by simp[ine,he])]) (fun z he=>by rw[ģ (by simp[ine,he])]) (fun _ _ _=>rfl)).trans ?_
 split
 ·rfl
 ·rename_i e;have hr:=(Λ hI (by simpa using e)).1;dsimp only;rw[uJ,show((((Ë (Č b [n]).1).length:Int)+1,Ý (Č b [n]).1):Sys)=J6 (Č b [n]).1 from rfl,Vi hr n hA hB,À];unfold Sg
  by_cases hp:(į (Č b [n]).1 c).2=0
  ·rw[if_neg (by simp[hp]),if_neg (by simp[hp]),Õ (by rfl),adR (Yi hp),À]
  ·rw[if_pos hp,if_pos hp,Þ (bne_iff_ne.2 hp)]
def aaT (x:Int):Int:=max (-288230376151711744) (min x 288230376151711744)
def AI (w:Hf) (l:Int×Int):List Int:=(κ w.2.1++κ w.2.2)++(rJ w.2.1 l.1++rJ w.2.2 (-l.1))++(rJ w.2.1 l.2++rJ w.2.2 (-l.2))
def Yw (w:Hf) (l:Int×Int):Bool:=(Nt w.1 (AI w l)).all fun d=>pu (Kc w d) l != 3
def JY (b:Ü) (n l:Int×Int) (c:Cmp):Bool×Int :=
 if (Č b [n]).2≠0 then(false,(Č b [n]).2) else if l.2<l.1 then(false,1) else if (į (Č b [n]).1 c).2≠0 then(false,(į (Č b [n]).1 c).2) else(Yw (S8 (Č b [n]).1 n c) (aaT l.1,aaT l.2),0)
def ZM {ρ:Type}:@qS ρ=@ā ρ:=rfl
def afE (x:Int):kL x=some (aaT x):=by
 unfold kL tQ aaT;rw[GO,GP]
def JM {e:End} (h:SX e) {n:Int} (hn : -300000000000000000≤n∧n≤300000000000000000):∀m∈rJ e n,-1000000000000000000≤m∧m≤1000000000000000000:=by
 obtain⟨⟨a1,a2⟩,⟨b1,b2⟩,c1,c2⟩:=h;intro m hm;unfold rJ at hm;simp only[List.mem_cons,List.not_mem_nil,or_false] at hm;omega
def aaJ {b:Ü} (hI:In b) (n l:Int×Int) {c:Cmp} (hA:c.2.2.1.length≤1000) (hB:c.2.2.2.1.length≤1000):o8 b n l c=some (JY b n l c):=by
 unfold o8 By JY;rw[ZM];refine(pC hI (ns:=[n]) (by simp) (fun e=>some (false,e)) (fun e he=>by rw[Þ (by simp[ine,he])]) (fun z he=>by rw[Þ (by simp[ine,he])]) (fun _ _ _=>rfl)).trans ?_
 split
 ·rfl
 ·rename_i e;have hr:=(Λ hI (by simpa using e)).1;dsimp only
  by_cases hl:l.2<l.1
  ·rw[Þ (by simp[igt,hl]),if_pos hl]
  ·rw[Õ (by simp[igt]; omega),if_neg hl,uJ,show((((Ë (Č b [n]).1).length:Int)+1,Ý (Č b [n]).1):Sys)=J6 (Č b [n]).1 from rfl,Vi hr n hA hB,À];unfold Sg
   by_cases hp:(į (Č b [n]).1 c).2=0
   ·rw[if_neg (by simp[hp]),if_neg (by simp[hp]),Õ (by rfl)];have hw:=Yi (n:=n) hp;dsimp only;generalize S8 (Č b [n]).1 n c=w at hw ⊢
    have f1 : -300000000000000000≤aaT l.1∧aaT l.1≤300000000000000000:=by unfold aaT; omega
    have f2 : -300000000000000000≤aaT l.2∧aaT l.2≤300000000000000000:=by unfold aaT; omega
    have q1:([κ w.2.1,κ w.2.2]:List (List Int)).flatten=κ w.2.1++κ w.2.2:=by simp
    have q2:∀x y z:List Int,([x,y,z]:List (List Int)).flatten=x++(y++z):=by intro x y z; simp
    rw[Jz hw.high,À,Jz hw.low,À,n0 (by simp) (by rw[q1]; simp[κ]),À,q1,afE,À,afE,À];generalize aaT l.1=l1 at f1 ⊢;generalize aaT l.2=l2 at f2 ⊢
    rw[JL hw.high (by omega),À,Û (by omega) (by omega),Int.zero_sub,JL hw.low (by omega),À,n0 (by simp) (by rw[q2]; simp[κ,rJ]),À,q2,
     JL hw.high (by omega),À,Û (by omega) (by omega),Int.zero_sub,JL hw.low (by omega),À,n0 (by simp) (by rw[q2]; simp[κ,rJ]),À,q2]
    have hll:(AI w (l1,l2)).length=18:=rfl;have qs:κ w.2.1++κ w.2.2++(rJ w.2.1 l1++rJ w.2.2 (-l1))++(rJ w.2.1 l2++rJ w.2.2 (-l2))=AI w (l1,l2):=rfl
    rw[qs,abW w (by rw[hll]; omega) (fun m hm=>by
     unfold AI at hm;simp only[List.mem_append] at hm;rcases hm with((hm|hm)|(hm|hm))|(hm|hm)
     ·have:=JA hw.high m hm; omega
     ·have:=JA hw.low m hm; omega
     ·have:=JM hw.high f1 m hm; omega
     ·have:=JM hw.low (n:=-l1) (by omega) m hm; omega
     ·have:=JM hw.high f2 m hm; omega
     ·have:=JM hw.low (n:=-l2) (by omega) m hm; omega),À]
    have hnl:=YQ w.1 (l:=AI w (l1,l2)) (by rw[hll]; omega);have hsm:=abV hw (l:=AI w (l1,l2));unfold Yw;generalize Nt w.1 (AI w (l1,l2))=ds at hnl hsm ⊢;refine(gK ds (fun d=>pu (Kc w d) (l1,l2)==3) (fun z30=>some ((!(ige z30 (0:Int))),(0:Int))) (some (false,0)) (some (true,0)) (fun j=>by rw[show ige (j:Int) 0=true from decide_eq_true (by omega)]; rfl) (fun i d hi hd kn=>?_) (fun kn=>?_)).trans ?_
    ·try dsimp only
     unfold l8;rw[Ö hi,Ì hd,show Ŏ ((w.1.1,w.1.2),(w.2.1.1,w.2.1.2.1,w.2.1.2.2),w.2.2.1,w.2.2.2.1,w.2.2.2.2) d=Ŏ w d from rfl,abi hw (hsm d (List.mem_of_getElem? hd)),À,OM,À,Ñ hi (by omega),Ĵ]
    ·try dsimp only
     unfold l8;rw[ê]
    ·rw[show(fun d=>pu (Kc w d) (l1,l2) != 3)=(fun d=>!(pu (Kc w d) (l1,l2)==3)) from rfl,←List.not_any_eq_all_not]
     cases ds.any fun d=>pu (Kc w d) (l1,l2)==3<;>rfl
   ·rw[if_pos hp,if_pos hp,Þ (bne_iff_ne.2 hp)]
section
variable {L:List Lk} {N:Nat} {x y H G:Int}
def Zc (h:gW L N) (ht:Jt L N) (ho:Ő L N=true) {s t:Int} (hs:0≤s∧s<N) (hv:0≤t∧t<N):∃vs,Wl L (fun u=>u=s) vs t (dst L N s t):=by
 have h2:=h.n60;obtain⟨p,hp⟩:=(Μ h.links (by omega)).1 ho;obtain⟨vs,hw⟩:=(i6 h.links (by omega) hp hs).att t hv.1 hv.2 (Ze h ht ho hs hv);exact⟨vs,T2.1 hw⟩
def acO (h:gW L N) (ho:Ő L N=true) {s t d:Int} (hs:0≤s∧s<N) {vs:List Int} (hw:Wl L (fun u=>u=s) vs t d):dst L N s t≤d:=by
 have h2:=h.n60;obtain⟨p,hp⟩:=(Μ h.links (by omega)).1 ho;exact(i6 h.links (by omega) hp hs).low t vs d (T2.2 hw)
end
def aaw {b:Ü} (h:In b) (n:Int×Int) (upper:Bool):In (nN b n upper).1.1:=by
 have h0:In nJ:=⟨⟨by simp[nJ],by simp[nJ],by simp[nJ],by simp[nJ],by simp[nJ],by simp[nJ]⟩,by simp[nJ]⟩;unfold nN
 by_cases e:(Č b [n]).2=0
 ·rw[if_neg (by simp[e])];have hr:=(Λ h e).1
  split
  ·exact h0
  ·split
   ·exact afG (hr.good.inn hr.num) _ (by simp)
   ·exact h0
 ·rw[if_pos e]; exact h0
def y1:Fv exB (2,10)=((984,1011),0):=by decide +kernel
def y2:Fv exB (1,30)=((964,1005),0):=by decide +kernel
def y3:S0 exB (1,10) (2,10)=((-6,11),0):=by decide +kernel
def y4:Wb exB 10 [1,2]=((1979,2018),0):=by decide +kernel
def y5:adI exB (2,0) (990,1010)=(3,0):=by decide +kernel
def y6:(nN exB (2,10) true).2=0∧(nN exB (2,10) true).1.2.2.2.1=1011:=by decide +kernel
def y7:Zz exB (2,10) exC=(10,0):=by decide +kernel
def y8:JY exB (2,10) (900,1100) exC=(true,0):=by decide +kernel
def y9:X9 exB (nN exB (2,10) true).1=(true,0):=by decide +kernel
def y10:ß exB=0∧Ő (Ý exB) ((Ë exB).length+1)=true:=by decide +kernel
def y11:oa (nN exB (2,10) true).1=0:=by decide +kernel
def ZO:õ=some true:=by
 unfold õ A1 xH wy;have hc:=aaw xO (2,10) true
 have hv:I64 (nN exB (2,10) true).1.2.2.2.1:=by rw[y6.2]; unfold I64; omega
 rw[À];rw[show((((0:Int),(2:Int)),[((1:Int),(0:Int),(1000:Int),((-5:Int),(5:Int)),((1:Int),(10:Int)),(1:Int)),((2:Int),(0:Int),(1000:Int),((-50:Int),(50:Int)),((1:Int),(4:Int)),(0:Int))],[((1:Int),(10:Int))],[((1:Int),((20:Int),(29:Int)),(3:Int))],[((7:Int),(10:Int),[(1:Int)],[(2:Int)],(-20:Int),(1:Int),(100:Int),(200:Int))],([]:List (Int×Int))):Ü)=exB from rfl];rw[Nh xO,À,Nh xO,À,aaO xO,À,adC xO _ (by decide),À,afl xO,À,aaN xO,À,y1,y2,y3,y4,y5,y6.1,y6.2]
 rw[show xI exB ((2:Int),(10:Int)) ((8:Int),(10:Int),[(1:Int)],[(2:Int)],(0:Int),(0:Int),(0:Int),(0:Int))=some (Zz exB (2,10) exC) from afi xO _ (c:=exC) (by decide) (by decide),
  show o8 exB ((2:Int),(10:Int)) ((900:Int),(1100:Int)) ((8:Int),(10:Int),[(1:Int)],[(2:Int)],(0:Int),(0:Int),(0:Int),(0:Int))=some (JY exB (2,10) (900,1100) exC) from aaJ xO _ _ (c:=exC) (by decide) (by decide),
  adB xO hc hv,WF ((à _).1 y10.1) xO.num y10.2,IF hc hv,y7,y8,y9,y11]
 rfl
section
variable {B:Ü} (h:Wq B)
include h
end
theorem PM (n:Int) (s:Int×Int):ip n s=some (decide (s.1≤n)&&decide (n≤s.2)):=by
 unfold ip A2;rw[Ĵ]
 by_cases h:s.1≤n
 ·rw[if_pos (by simpa[ige] using h)]; simp[h]
 ·rw[if_neg (by simpa[ige] using h)]; simp[h]
def YE (b:Ü) (n:Int×Int):Int:=if (vM b n).2≠0 then -1 else(vM b n).1-1
theorem YD {b:Ü} (hI:In b) (n:Int×Int):j8 b n=some (YE b n):=by
 unfold j8 FR YE;rw[tg hI,À]
 by_cases h:(vM b n).2=0
 ·rw[Õ (by rw[h]; rfl),if_neg (by simp[h])];have hl:=FP hI.size;have hr:=ċ b n
  have hb:0≤(vM b n).1∧(vM b n).1≤3000000:=by
   unfold vM
   split
   ·simp
   ·split
    ·simp
    ·dsimp only; omega
  rw[Û (by omega) (by omega)]
 ·rw[Þ (bne_iff_ne.2 h),if_pos h]
theorem Km {b:Ü} (h:Ğ b) (n:Int×Int):YE b n=jC b n.1 n.2-1:=by
 unfold YE;rw[po h]
 by_cases h0:jC b n.1 n.2=0
 ·rw[if_pos h0,h0]; rfl
 ·rw[if_neg h0]; rfl
def TB:Ü→List (Int×Int)→Ü×Bool
 |b,[]=>(b,true)
 |b,n::t=>if (iQ b n).2≠0 then(b,false) else TB (iQ b n).1 t
theorem YA:∀(ns:List (Int×Int)) (b:Ü),(TB b ns).2=decide ((ũ b ns).2=0)∧((ũ b ns).2=0→TB b ns=((ũ b ns).1,true))
 |[],b=>⟨rfl,fun _=>rfl⟩
 |n::t,b=>by
  unfold TB ũ
  by_cases h:(iQ b n).2=0
  ·rw[if_neg (by simp[h]),if_neg (by simp[h])];exact YA t _
  ·rw[if_pos h,if_pos h];exact⟨by simp[h],fun e=>absurd e h⟩
abbrev agV:Type:=Int×Int×List ù×List (Int×Int)×List JZ×List Cmp×List (Int×Int)×Flat
def bk2 (s:agV):Ü:=((s.1,s.2.1),s.2.2.1,s.2.2.2.1,s.2.2.2.2.1,s.2.2.2.2.2.1,s.2.2.2.2.2.2.1)
theorem aaZ {b:Ü} (hg:Ğ b) (hn:∀g∈b.2.1,I64 g.2.2.2.2.1.1) {ns:List (Int×Int)} (hl:ns.length≤1000):Ο b ns=some (TB b ns):=by
 unfold Ο CH;refine JQ ns (fun(i:Nat) (s:agV) (t:List (Int×Int))=>some (TB (bk2 s) t)) (fun i s=>Ğ (bk2 s)∧∀g∈(bk2 s).2.1,I64 g.2.2.2.2.1.1) (fun s hs kn=>?_) (fun i n t s hd hi ha hs kn hk=>?_) (s:=(b.1.1,b.1.2,b.2.1,b.2.2.1,b.2.2.2.1,b.2.2.2.2.1,b.2.2.2.2.2,0,0,[],[],[],[],[])) ⟨hg,hn⟩
 ·dsimp only;unfold ml;rw[ê];rfl
 ·dsimp only;unfold ml;obtain⟨hs1,hs2⟩:=hs;have hin:In (bk2 s):=hs1.inn hs2;rw[Ö hi,Ì ha,Ì ha];rw[show ĝ ((s.1,s.2.1),s.2.2.1,s.2.2.2.1,s.2.2.2.2.1,s.2.2.2.2.2.1,s.2.2.2.2.2.2.1) n=ĝ (bk2 s) n from rfl,tg hin,À];rw[show ŷ ((s.1,s.2.1),s.2.2.1,s.2.2.2.1,s.2.2.2.2.1,s.2.2.2.2.2.1,s.2.2.2.2.2.2.1) n=ŷ (bk2 s) n from rfl,Yb hin,À,po hs1]
  have hu:TB (bk2 s) (n::t)=if (iQ (bk2 s) n).2≠0 then(bk2 s,false) else TB (iQ (bk2 s) n).1 t:=rfl
  rw[hu]
  by_cases h0:jC (bk2 s) n.1 n.2=0
  ·rw[if_pos h0,Õ (by rfl)]
   by_cases h2:ß (ki (bk2 s) n)=0
   ·have e:iQ (bk2 s) n=(ki (bk2 s) n,0):=by unfold iQ; rw[if_neg (by simp[h0]),if_neg (by simp[h2])]
    have e2:Ju (bk2 s) n=(ki (bk2 s) n,0):=by unfold Ju; rw[if_neg (by simp[(à (bk2 s)).2 hs1]),if_neg (by simp[h2])]
    rw[e2,e,Õ (by rfl),Ñ hi (by omega),if_neg (show ¬((0:Int)≠0) by simp)];exact hk (s.1,s.2.1,s.2.2.1,s.2.2.2.1,s.2.2.2.2.1,s.2.2.2.2.2.1,s.2.2.2.2.2.2.1++[n],s.2.2.2.2.2.2.2) ⟨(à _).1 h2,hs2⟩
   ·have e:iQ (bk2 s) n=(nJ,ß (ki (bk2 s) n)):=by unfold iQ; rw[if_neg (by simp[h0]),if_pos h2]
    have e2:Ju (bk2 s) n=(nJ,ß (ki (bk2 s) n)):=by unfold Ju; rw[if_neg (by simp[(à (bk2 s)).2 hs1]),if_pos h2]
    rw[e2,e,Þ (bne_iff_ne.2 h2),if_pos h2];rfl
  ·have e:iQ (bk2 s) n=(bk2 s,0):=by unfold iQ; rw[if_pos h0]
   rw[if_neg h0,Þ (by rfl),Ñ hi (by omega),e,if_neg (show ¬((0:Int)≠0) by simp)];exact hk s ⟨hs1,hs2⟩
theorem adT {b:Ü} (hI:In b) (hc:ß b≠0) (n:Int×Int) (t:List (Int×Int)) (hl:(n::t).length≤1000):Ο b (n::t)=some (b,false):=by
 unfold Ο CH;refine ť (fun(v:Int×agV)=>v=(0,b.1.1,b.1.2,b.2.1,b.2.2.1,b.2.2.2.1,b.2.2.2.2.1,b.2.2.2.2.2,0,0,[],[],[],[],[])) (fun _=>0) (fun v hv=>.inl fun kn=>?_) rfl;subst hv;dsimp only;unfold ml
 have e1:vM b n=(0,ß b):=by unfold vM; rw[if_pos hc]
 have e2:Ju b n=(nJ,ß b):=by unfold Ju; rw[if_pos hc]
 rw[á,Þ (decide_eq_true (by rw[cN]; omega)),Mn,Mn,show ĝ ((b.1.1,b.1.2),b.2.1,b.2.2.1,b.2.2.2.1,b.2.2.2.2.1,b.2.2.2.2.2) n=ĝ b n from rfl,tg hI,À,
  show ŷ ((b.1.1,b.1.2),b.2.1,b.2.2.1,b.2.2.2.1,b.2.2.2.2.1,b.2.2.2.2.2) n=ŷ b n from rfl,Yb hI,À,e1,e2,Õ (beq_eq_false_iff_ne.2 hc),Þ (bne_iff_ne.2 hc)]
theorem Yk {b:Ü} (hI:In b) {ns:List (Int×Int)} (hl:ns.length≤1000) (h0:ns≠[]):∃y:Ü×Bool,Ο b ns=some y∧(y.2=true↔Ğ b∧(ũ b ns).2=0)∧(y.2=true→y=((ũ b ns).1,true)):=by
 by_cases hc:ß b=0
 ·have hg:=(à b).1 hc;have hr:=YA ns b;refine⟨_,aaZ hg hI.num hl,⟨fun h=>⟨hg,by rw[hr.1] at h; exact of_decide_eq_true h⟩,fun h=>by rw[hr.1]; exact decide_eq_true h.2⟩,fun h=>hr.2 (by rw[hr.1] at h; exact of_decide_eq_true h)⟩
 ·cases ns with
  |nil=>exact absurd rfl h0
  |cons n t=>exact⟨_,adT hI hc n t hl,⟨fun h=>(Bool.noConfusion h),fun h=>absurd ((à b).2 h.1) hc⟩,fun h=>Bool.noConfusion h⟩
def acM {B:Ü} (h:Wq B) {s u t:Int} (hs:0≤s∧s<((Ë B).length+1:Nat)) (hu:0≤u∧u<((Ë B).length+1:Nat)) (ht:0≤t∧t<((Ë B).length+1:Nat)):JX B s t≤JX B s u+JX B u t:=by
 obtain⟨v1,w1⟩:=Zc h.good.sys h.good.tied h.op hs hu;obtain⟨v2,w2⟩:=Zc h.good.sys h.good.tied h.op hu ht;obtain⟨v3,w3⟩:=w1.app w2;exact acO h.good.sys h.op hs w3
section
variable {B:Ü} (h:Wq B)
end
section
variable {ρ:Type}
def VB (B:Ü) (a:Int):Prop:=0≤a∧a<((Ë B).length+1:Nat)
end
def acQ {B:Ü} (h:Wq B):JX B 0 0=0:=by
 have h1:=acM h (ę B) (ę B) (ę B);have h2:=acO h.good.sys h.op (ę B) (Wl.nil (L:=Ý B) (S:=fun u=>u=(0:Int)) rfl);unfold JX at *;omega
section
variable {ρ:Type}
end
def OX:∀{ns:List (Int×Int)} {b:Ü},(ũ b ns).2=0→(ũ b ns).1.1=b.1
 |[],b,_=>rfl
 |n::t,b,e=>by
  unfold ũ at e ⊢
  split
  ·rename_i h1; rw[if_pos h1] at e; exact absurd e h1
  ·rename_i h1;rw[if_neg h1] at e;rw[OX e];unfold iQ at h1 ⊢
   split
   ·rfl
   ·split
    ·rename_i h2 h3; rw[if_neg h2,if_pos h3] at h1; exact absurd h3 (by simpa using h1)
    ·rfl
def KC {b:Ü} {ns:List (Int×Int)} (e:(Č b ns).2=0) (hI:In b):(Č b ns).1.1=b.1:=by
 have:=Λ hI e;rw[this.2.1];exact OX this.2.2.1
def aeD {x:List Int} {k:Int} (h1:1≤k):gv (0::x) k=gv x (k-1):=by
 rw[agk _ _ (by omega),if_neg (by omega)]
def YZ {ρ:Type} {x:List Int} {k:Int} (h1:1≤k) (h2:k≤x.length) (f:Int→Option ρ):û x (k-1) f=f (gv (0::x) k):=by
 rw[m9 (by omega) (by omega),aeD h1]
def agq {B:Ü} (h:Wq B) {x:List Int} (hx:zl B x=(true,0)) (n:Int×Int):(ivR B n).1≤gv (0::x) (jC B n.1 n.2)∧gv (0::x) (jC B n.1 n.2)≤(ivR B n).2:=by
 obtain⟨_,_,hf⟩:=Fw.1 hx;have hp:Pot (Ý B) (gv (0::x)):=VA.1 hf;have a1:=ph h.good.sys h.good.tied h.op (ċ B n) (ę B) hp;have a2:=ph h.good.sys h.good.tied h.op (ę B) (ċ B n) hp;have e:gv (0::x) 0=0:=rfl;rw[e] at a1 a2;unfold ivR JX;dsimp only;omega
def Ys (B:Ü) (x:List Int) (ns:List (Int×Int)) (s:Int):Int:=ns.foldl (fun s n=>s+gv (0::x) (jC B n.1 n.2)) s
def aba (B:Ü) {x:List Int} {m:Int} (hm:0≤m) (hx:∀a∈x,-m≤a∧a≤m):∀(ns:List (Int×Int)) (s k:Int),-k≤s∧s≤k→-(k+ns.length*m)≤Ys B x ns s∧Ys B x ns s≤k+ns.length*m
 |[],s,k,h=>by unfold Ys; simp; omega
 |n::t,s,k,h=>by
  have g : -m≤gv (0::x) (jC B n.1 n.2)∧gv (0::x) (jC B n.1 n.2)≤m:=gv_bd hm (fun a ha=>by
   rcases cJ.1 ha with rfl|ha
   ·omega
   ·exact hx a ha) _
  have:=aba B hm hx t (s+gv (0::x) (jC B n.1 n.2)) (k+m) (by omega);unfold Ys at this ⊢;simp only[List.foldl_cons,List.length_cons]
  have e:((t.length+1:Nat):Int)*m=t.length*m+m:=by push_cast; rw[fS,fZ]
  rw[e];omega
def Qd {B:Ü} (hg:Ğ B) (hN:∀g∈B.2.1,I64 g.2.2.2.2.1.1) {ns:List (Int×Int)} (hn:∀n∈ns,ln B n) (hl:ns.length≤100) {x:List Int} (hx:x.length=(Ë B).length) (hb:∀a∈x,-4503599627370496≤a∧a≤4503599627370496) (long:Bool) :
 ġ B ns x long=some (Ys B x ns (max 0 ((ns.length:Int)-1)*(if long then B.1.2 else B.1.1)),true):=by
 have hf:=hg.film
 have key:∀(s0:Int),0≤s0∧s0≤1000000000→∀K1:Int×Bool→Option (Int×Bool),Í (fun(v10:Val Ã) kk13=>ō ns x B.1.1 B.1.2 B.2.1 B.2.2.1 B.2.2.2.1 B.2.2.2.2.1 B.2.2.2.2.2 v10.1 v10.2 (fun u11 u12=>kk13 (u11,u12)) K1 (fun z9=>some (z9,true))) (s0,(0:Int))=some (Ys B x ns s0,true):=by
  intro s0 h0 K1;refine ť (fun v=>∃i:Nat,i≤ns.length∧v=(Ys B x (ns.take i) s0,(i:Int))) (fun v=>ns.length-v.2.toNat) ?_ ⟨0,by omega,rfl⟩;rintro v ⟨i,hi,rfl⟩;rcases dt i ns.length with h2|h2
  ·have ha:ns[i]?=some ns[i]:=cD h2;have hd:=hn ns[i] (dP _);generalize ns[i]=n at ha hd;have hi0:=(Sj hg).2 hd;have hir:=ċ B n
   have g : -4503599627370496≤gv (0::x) (jC B n.1 n.2)∧gv (0::x) (jC B n.1 n.2)≤4503599627370496:=gv_bd (by omega) (fun a ha=>by
    rcases cJ.1 ha with rfl|ha
    ·omega
    ·exact hb a ha) _
   have hs:=aba B (m:=4503599627370496) (by omega) hb (ns.take i) s0 1000000000 (by omega)
   have htl:((ns.take i).length:Int)≤100:=by rw[cW]; omega
   refine .inr ⟨(Ys B x (ns.take (i+1)) s0,((i+1:Nat):Int)),⟨i+1,h2,rfl⟩,by dsimp only; omega,fun kn=>?_⟩;dsimp only;unfold ō
   rw[Ö h2,Ì ha,show j8 ((B.1.1,B.1.2),B.2.1,B.2.2.1,B.2.2.2.1,B.2.2.2.2.1,B.2.2.2.2.2) n=j8 B n from rfl,YD (hg.inn hN),À,Km hg,Õ (decide_eq_false (by omega)),á,Õ (decide_eq_false (by omega)),
    YZ (by omega) (by omega),Û (by omega) (by omega),Ñ h2 (by omega),take_succ ha]
   unfold Ys;rw[List.foldl_append];rfl
  ·refine .inl fun kn=>?_
   obtain rfl:i=ns.length:=by omega
   dsimp only;unfold ō;rw[ê,List.take_length]
 have hm:∀y:Int,0≤y→y≤1000000→0≤max 0 ((ns.length:Int)-1)*y∧max 0 ((ns.length:Int)-1)*y≤1000000000:=by
  intro y h0 h1;have:max 0 ((ns.length:Int)-1)*y≤1000*1000000:=eG (by omega) h1 h0 (by omega);exact⟨fh (by omega) h0,by omega⟩
 have m1:=hm B.1.1 (by omega) (by omega);have m2:=hm B.1.2 (by omega) (by omega);unfold ġ yg;rw[á]
 cases long with
 |true=>rw[Ĥ,Û (by omega) (by omega),GP,Û (by omega) (by omega),if_pos rfl]; exact key _ m2 _
 |false=>rw[ã,Û (by omega) (by omega),GP,Û (by omega) (by omega),if_neg (by simp)]; exact key _ m1 _
def JB (p:Int→Int) (l:List Int):Int:=l.foldr (fun a s=>p a+s) 0
theorem abe {p:Int→Int} {l m:List Int} (h:l.Perm m):JB p l=JB p m:=by
 induction h with
 |nil=>rfl
 |cons a h ih=>simp only[JB,fP] at ih ⊢; omega
 |swap a b l=>simp only[JB,fP]; omega
 |trans _ _ h1 h2=>omega
theorem J7 (p:Int→Int) (l m:List Int):JB p (l++m)=JB p l+JB p m:=by
 induction l with
 |nil=>simp[JB]
 |cons a l ih=>simp only[JB,d8,fP] at ih ⊢; omega
theorem Wy {p:Int→Int} (h0:p 0=0):∀n:Nat,JB p (zs n)=0
 |0=>rfl
 |n+1=>by
  have:=Wy h0 n;rw[show zs (n+1)=0::zs n from rfl];simp only[JB,fP] at this ⊢;omega
theorem Mt.pot {D:Int→Int→Int} {V:Int→Prop} {p:Int→Int} (hp:∀a b,V a→V b→p b-p a≤D a b) {f t:List Int} {s:Int} (h:Mt D f t s):(∀a∈f,V a)→(∀b∈t,V b)→JB p t-JB p f≤s:=by
 induction h with
 |nil=>intro _ _; simp[JB]
 | @cons a f t r x s q h ih =>
  intro hf ht;have h1:=ih (fun b hb=>hf b (dK _ hb)) (fun b hb=>ht b (q.symm.subset (dK _ hb)));have h2:=hp a x (hf a (by simp)) (ht x (q.symm.subset (by simp)));rw[abe q];simp only[JB,fP] at h1 ⊢;omega
section
variable {B:Ü} (h:Wq B)
theorem agN (ns:List (Int×Int)):∀a∈atL B ns,VB B a:=fun a ha=>by
 obtain⟨n,_,rfl⟩:=dX.1 ha;exact ċ B n
include h in
theorem abY {p:Int→Int} (hp:Pot (Ý B) p) (h0:p 0=0) (x y:List (Int×Int)):JB p (atL B x)-JB p (atL B y)≤KH B (atL B x) (atL B y):=by
 have hz:∀(l:List (Int×Int)) (n:Nat),∀b∈atL B l++zs n,VB B b:=fun l n b hb=>by
  rcases cI.1 hb with hb|hb
  ·exact agN l b hb
  ·rw[gh hb]; exact ę B
 have h1:=(abX (D:=JX B) (V:=VB B) (fun c x hc hx=>acM h hc (ę B) hx) (acQ h) (ę B) (agN y) (atL B x) (List.replicate (atL B y).length false) (agN x)).1;rw[aa6] at h1;have h2:=h1.pot (V:=VB B) (p:=p) (fun a b ha hb=>ph h.good.sys h.good.tied h.op ha hb hp) (hz _ _) (hz _ _);rw[J7,J7,Wy h0,Wy h0] at h2;unfold KH;omega
end
theorem Wv (B:Ü) (x:List Int):∀(ns:List (Int×Int)) (s:Int),Ys B x ns s=s+JB (gv (0::x)) (atL B ns)
 |[],s=>by simp[Ys,JB,atL]
 |n::t,s=>by
  have:=Wv B x t (s+gv (0::x) (jC B n.1 n.2));unfold Ys at this ⊢;rw[List.foldl_cons,this];show _=s+(gv (0::x) (jC B n.1 n.2)+JB (gv (0::x)) (atL B t));omega
theorem abc {B:Ü} (h:Wq B) {x:List Int} (hx:zl B x=(true,0)):∀(ns:List (Int×Int)) (s:Int×Int) (t:Int),s.1≤t→t≤s.2→(Wn B ns s).1≤Ys B x ns t∧Ys B x ns t≤(Wn B ns s).2
 |[],s,t,h1,h2=>⟨h1,h2⟩
 |n::ns,s,t,h1,h2=>by
  have:=agq h hx n;exact abc h hx ns (s.1+(ivR B n).1,s.2+(ivR B n).2) (t+gv (0::x) (jC B n.1 n.2)) (by dsimp only; omega) (by dsimp only; omega)
theorem Iw {α β:Type} {f g:β→α→β}:∀(l:List α) (b:β),(∀b,∀a∈l,f b a=g b a)→l.foldl f b=l.foldl g b
 |[],_,_=>rfl
 |a::l,b,h=>by
  rw[fj,fj,h b a (by simp)];exact Iw l _ fun b c hc=>h b c (dK _ hc)
theorem Hz {α:Type} {R R':Int→Int→Int} {g g':α→Int} {k:List α}:∀(l:List α) (u:List Bool),(∀a∈l,∀c∈k,R (g a) (g c)=R' (g' a) (g' c))→(∀a∈l,R (g a) 0=R' (g' a) 0)→(∀c∈k,R 0 (g c)=R' 0 (g' c)) →
 ŋ R (l.map g) (k.map g) u=ŋ R' (l.map g') (k.map g') u
 |[],u,_,_,h3=>by
  have:∀(k:List α) (u:List Bool),(∀c∈k,R 0 (g c)=R' 0 (g' c))→qG R (k.map g) u=qG R' (k.map g') u:=by
   intro k
   induction k with
   |nil=>intro u _; cases u<;>rfl
   |cons c k ih =>
    intro u hk
    cases u with
    |nil=>rfl
    |cons b u =>
     simp only[dW,qG,hk c (by simp),ih u (fun c hc=>hk c (dK _ hc))]
  exact this k u h3
 |a::l,u,h1,h2,h3=>by
  have ih:=fun u=>Hz (R:=R) (R':=R') (g:=g) (g':=g') (k:=k) l u (fun b hb=>h1 b (List.mem_cons_of_mem _ hb)) (fun b hb=>h2 b (List.mem_cons_of_mem _ hb)) h3;have e1:ŋ R ((a::l).map g) (k.map g) u=(List.range (k.map g).length).foldl (II R (g a) (ŋ R (l.map g) (k.map g)) (k.map g) u) (R (g a) 0+ŋ R (l.map g) (k.map g) u):=rfl;have e2:ŋ R' ((a::l).map g') (k.map g') u=(List.range (k.map g').length).foldl (II R' (g' a) (ŋ R' (l.map g') (k.map g')) (k.map g') u) (R' (g' a) 0+ŋ R' (l.map g') (k.map g') u):=rfl;rw[e1,e2,h2 a (by simp),ih u,List.length_map,List.length_map];refine Iw _ _ fun v i hi=>?_;have hi:=List.mem_range.1 hi;unfold II;rw[ih,List.getElem?_map,List.getElem?_map,List.getElem?_eq_getElem hi];simp only[Option.map_some,Option.getD_some];rw[h1 a (by simp) k[i] (List.getElem_mem _)]
section
variable {b B B':Ü} {ns ns':List (Int×Int)} (hA:Ye b ns B) (hA':Ye b ns' B')
include hA hA' in
theorem agG {m n:Int×Int} (hm:m∈ns) (hn:n∈ns) (hm':m∈ns') (hn':n∈ns'):btR B m n=btR B' m n:=by
 have key:∀{B B':Ü} {ns ns':List (Int×Int)},Ye b ns B→Ye b ns' B'→m∈ns→n∈ns→m∈ns'→n∈ns'→(btR B' m n).1≤(btR B m n).1∧(btR B m n).2≤(btR B' m n).2:=fun hA hA' hm hn hm' hn'=>by
  have ho:=afd hA.room m n;obtain⟨f,z,hf,e⟩:=bt_at hA.room (hA.nodes m hm) (hA.nodes n hn) (dM _) ho;obtain⟨f2,z2,hf2,e2⟩:=bt_at hA.room (hA.nodes m hm) (hA.nodes n hn) ho (dM _);have i1:=bt_in hA'.room (hA'.nodes m hm') (hA'.nodes n hn') (hA'.hist.2 (hA.hist.1 hf));have i2:=bt_in hA'.room (hA'.nodes m hm') (hA'.nodes n hn') (hA'.hist.2 (hA.hist.1 hf2));omega
 have k1:=key hA hA' hm hn hm' hn';have k2:=key hA' hA hm' hn' hm hn;exact Prod.ext (by omega) (by omega)
include hA hA' in
theorem acs {m:Int×Int} (hm:m∈ns) (hm':m∈ns'):ivR B m=ivR B' m:=by
 have key:∀{B B':Ü} {ns ns':List (Int×Int)},Ye b ns B→Ye b ns' B'→m∈ns→m∈ns'→(ivR B' m).1≤(ivR B m).1∧(ivR B m).2≤(ivR B' m).2:=fun hA hA' hm hm'=>by
  have ho:=aeA hA.room m;obtain⟨f,z,hf,e⟩:=iv_at hA.room (hA.nodes m hm) (dM _) ho;obtain⟨f2,z2,hf2,e2⟩:=iv_at hA.room (hA.nodes m hm) ho (dM _);have i1:=iv_in hA'.room (hA'.nodes m hm') (hA'.hist.2 (hA.hist.1 hf));have i2:=iv_in hA'.room (hA'.nodes m hm') (hA'.hist.2 (hA.hist.1 hf2));omega
 have k1:=key hA hA' hm hm';have k2:=key hA' hA hm' hm;exact Prod.ext (by omega) (by omega)
include hA hA' in
theorem T6 {x y:List (Int×Int)} (hx:∀n∈x,n∈ns∧n∈ns') (hy:∀n∈y,n∈ns∧n∈ns'):KH B (atL B x) (atL B y)=KH B' (atL B' x) (atL B' y):=by
 have l1:(atL B y).length=y.length:=by simp[atL]
 have l2:(atL B' y).length=y.length:=by simp[atL]
 unfold KH;rw[l1,l2];refine Hz x _ (fun a ha c hc=>?_) (fun a ha=>?_) (fun c hc=>?_)
 ·have:=agG hA hA' (hx a ha).1 (hy c hc).1 (hx a ha).2 (hy c hc).2;exact congrArg Prod.snd this
 ·exact congrArg Prod.snd (acs hA hA' (hx a ha).1 (hx a ha).2)
 ·have:=congrArg Prod.fst (acs hA hA' (hy c hc).1 (hy c hc).2);have e : -(JX B (jC B c.1 c.2) 0) = -(JX B' (jC B' c.1 c.2) 0):=this;show JX B (jC B c.1 c.2) 0=JX B' (jC B' c.1 c.2) 0;omega
end
def totF (B:Ü) (x:List Int):List (Int×Int)→Int→Int×Bool
 |[],s=>(s,true)
 |n::t,s=>if (x.length:Int)≤jC B n.1 n.2-1 then(0,false) else totF B x t (aaQ (s+gv (0::x) (jC B n.1 n.2)))
theorem J4 {B:Ü} (hg:Ğ B) (hN:∀g∈B.2.1,I64 g.2.2.2.2.1.1) {ns:List (Int×Int)} (hn:∀n∈ns,ln B n) (hl:ns.length≤100) (x:List Int) (long:Bool):∃r:Int×Bool,ġ B ns x long=some r:=by
 have key:∀s0:Int,Í (fun(v10:Int×Int) kk13=>ō ns x B.1.1 B.1.2 B.2.1 B.2.2.1 B.2.2.2.1 B.2.2.2.2.1 B.2.2.2.2.2 v10.1 v10.2 (fun u11 u12=>kk13 (u11,u12)) (fun z8=>some (z8.1,z8.2)) (fun z9=>some (z9,true))) (s0,(0:Int))=some (totF B x ns s0):=fun s0=>by
  refine ť (fun v:Int×Int=>∃i:Nat,i≤ns.length∧v.2=i∧totF B x (ns.drop i) v.1=totF B x ns s0) (fun v=>ns.length-v.2.toNat) ?_ ⟨0,by omega,rfl,rfl⟩;rintro⟨s,j⟩ ⟨i,hi,hj,he⟩;dsimp only at hj he;subst hj;rcases Nat.lt_or_ge i ns.length with h|h
  ·have hgn:ns[i]?=some ns[i]:=cD h;have hd:=hn ns[i] (dP _);have hi0:=(Sj hg).2 hd;have hir:=ċ B ns[i];rw[d9 h] at he
   have e0:totF B x (ns[i]::ns.drop (i+1)) s=if (x.length:Int)≤jC B ns[i].1 ns[i].2-1 then(0,false) else totF B x (ns.drop (i+1)) (aaQ (s+gv (0::x) (jC B ns[i].1 ns[i].2))):=rfl
   rw[e0] at he
   have run:∀kn:Int×Int→Option (Int×Bool),ō ns x B.1.1 B.1.2 B.2.1 B.2.2.1 B.2.2.2.1 B.2.2.2.2.1 B.2.2.2.2.2 s (i:Int) (fun u11 u12=>kn (u11,u12)) (fun z8=>some (z8.1,z8.2)) (fun z9=>some (z9,true)) =
    if (x.length:Int)≤jC B ns[i].1 ns[i].2-1 then some (0,false) else kn (aaQ (s+gv (0::x) (jC B ns[i].1 ns[i].2)),((i+1:Nat):Int)):=fun kn=>by
    unfold ō;rw[Ö h,Ì hgn,show j8 ((B.1.1,B.1.2),B.2.1,B.2.2.1,B.2.2.2.1,B.2.2.2.2.1,B.2.2.2.2.2) ns[i]=j8 B ns[i] from rfl,YD (hg.inn hN),À,Km hg,Õ (decide_eq_false (by omega)),á]
    by_cases hx:(x.length:Int)≤jC B ns[i].1 ns[i].2-1
    ·rw[Þ (decide_eq_true hx),if_pos hx]
    ·rw[Õ (decide_eq_false hx),if_neg hx,YZ (by omega) (by omega)];unfold ck
     rw[show aaQ ((i:Int)+1)=((i+1:Nat):Int) from by
      have:=Ñ (ρ:=Int) h (by omega) some;unfold ck at this
      exact Option.some.inj this]
   by_cases hx:(x.length:Int)≤jC B ns[i].1 ns[i].2-1
   ·rw[if_pos hx] at he;refine .inl fun kn=>(run kn).trans ?_;rw[if_pos hx,←he]
   ·rw[if_neg hx] at he;refine .inr ⟨(aaQ (s+gv (0::x) (jC B ns[i].1 ns[i].2)),((i+1:Nat):Int)),⟨i+1,h,rfl,he⟩,by dsimp only; omega,fun kn=>(run kn).trans (if_neg hx)⟩
  ·refine .inl fun kn=>?_
   obtain rfl:i=ns.length:=by omega
   rw[List.drop_length] at he;dsimp only;unfold ō;rw[ê,←he];rfl
 unfold ġ yg
 cases long with
 |true =>
  rw[Ĥ];unfold ck;exact⟨_,key _⟩
 |false =>
  rw[ã];unfold ck;exact⟨_,key _⟩
theorem aed {ρ:Type} (day:Int) {ids:List Int} (hl:ids.length≤1000) (K:List (Int×Int)→Option ρ):Í (fun(v18:(Val (.pair tI (.slice Ã)))) kk21=>Ń day ids v18.1 v18.2 (fun u19 u20=>kk21 (u19,u20)) K) ((0:Int),[])=K (onP day ids):=by
 refine Ą ids (fun i=>onP day (ids.take i)) _ rfl (fun i x hi hx kn=>?_) (fun kn=>?_)
 ·try dsimp only
  unfold Ń;rw[Ö hi,Ì hx,Ñ hi (by omega),take_succ hx];have:è (List.length (onP day (ids.take i))+List.length ([(x,day)]))=true:=Ø (by simp[onP]; omega);rw[ģ this];simp[onP]
 ·try dsimp only
  unfold Ń;rw[ê,List.take_length]
theorem aec {ρ:Type} (day:Int) {ids:List Int} (hl:ids.length≤1000) (K:List (Int×Int)→Option ρ):Í (fun(v18:(Val (.pair tI (.slice Ã)))) kk21=>ø day ids v18.1 v18.2 (fun u19 u20=>kk21 (u19,u20)) K) ((0:Int),[])=K (onP day ids):=by
 refine Ą ids (fun i=>onP day (ids.take i)) _ rfl (fun i x hi hx kn=>?_) (fun kn=>?_)
 ·try dsimp only
  unfold ø;rw[Ö hi,Ì hx,Ñ hi (by omega),take_succ hx];have:è (List.length (onP day (ids.take i))+List.length ([(x,day)]))=true:=Ø (by simp[onP]; omega);rw[ģ this];simp[onP]
 ·try dsimp only
  unfold ø;rw[ê,List.take_length]
theorem Zg {B:Ü} (h:Wq B) {f:Int×Int} (hf:0≤f.1∧f.1≤1000000∧0≤f.2∧f.2≤1000000) (day:Int) {x y:List Int} (hx:x.length≤3) (hy:y.length≤3) :
 (-70000000000000000≤(MK B f day x y).1∧(MK B f day x y).1≤70000000000000000)∧(-70000000000000000≤(MK B f day x y).2∧(MK B f day x y).2≤70000000000000000):=by
 obtain⟨m1,m2,m3⟩:=JK h (p:=onP day x) (q:=onP day y) (by simp[onP]; omega) (by simp[onP]; omega);obtain⟨m4,m5,m6⟩:=JK h (p:=onP day y) (q:=onP day x) (by simp[onP]; omega) (by simp[onP]; omega)
 have hm:∀k z:Int,0≤k→k≤3→0≤z→z≤1000000→0≤k*z∧k*z≤10000000:=by
  intro k z k0 k1 h0 h1;have:k*z≤3*1000000:=eG k1 h1 h0 (by omega);exact⟨fh k0 h0,by omega⟩
 have a1:=hm (max 0 ((x.length:Int)-1)) f.1 (by omega) (by omega) (by omega) (by omega);have a2:=hm (max 0 ((x.length:Int)-1)) f.2 (by omega) (by omega) (by omega) (by omega);have a3:=hm (max 0 ((y.length:Int)-1)) f.1 (by omega) (by omega) (by omega) (by omega);have a4:=hm (max 0 ((y.length:Int)-1)) f.2 (by omega) (by omega) (by omega) (by omega);unfold MK;dsimp only;omega
section
variable {b:Ü} (hI:In b)
include hI
theorem ph_A (day:Int) {x:List Int} (h6:x.length≤6) (ls:List Int) (long:Bool) (e:(Wb b day x).2=0) :
 ∃y:Ü×Bool,Ο b (onP day x)=some y∧y.2=true∧∃r:Int×Bool,ġ y.1 (onP day x) ls long=some r∧kQ y.1 ls=some (zl y.1 ls) ∧
  (zl y.1 ls=(true,0)→r.2=true∧(decide ((Wb b day x).1.1≤r.1)&&decide (r.1≤(Wb b day x).1.2))=true):=by
 unfold Wb at e ⊢
 by_cases hc:ß b=0
 case neg=>rw[if_pos hc] at e; exact absurd e hc
 rw[if_neg (by simp[hc])] at e ⊢
 by_cases h1:x.length=0∨iR x=false∨S7 day=false
 ·rw[if_pos h1] at e; cases e
 rw[if_neg h1] at e ⊢
 by_cases ho:(Č b (onP day x)).2=0
 case neg=>rw[if_pos ho] at e; exact absurd e ho
 rw[if_neg (by simp[ho])]
 have hlen:(onP day x).length=x.length:=by simp[onP]
 obtain⟨hr,hB,hr0,hg0⟩:=Λ hI ho;have hA:=yd hI ho;have hfilm:=KC ho hI;obtain⟨y,hy,hy1,hy2⟩:=Yk hI (ns:=onP day x) (by omega) (fun h=>h1 (.inl (by rw[←hlen,h]; rfl)));have hw:=hy2 (hy1.2 ⟨hg0,hr0⟩);rw[←hB] at hw;have hnd:=hA.nodes;generalize (Č b (onP day x)).1=B at hr hA hfilm hnd hw ⊢;subst hw;have hIB:=hr.good.inn hr.num;refine⟨_,hy,rfl,?_⟩
 by_cases hft:zl B ls=(true,0)
 ·have l1:=Im.1 (Fw.1 hft).2.1;refine⟨_,Qd hr.good hr.num hnd (by omega) l1.1 l1.2 long,SW hIB.size hIB.num ls,fun _=>⟨rfl,?_⟩⟩;have hf:=hr.good.film
  have hk:max 0 (((onP day x).length:Int)-1)=((onP day x).length:Int)-1:=by
   have:¬x.length=0:=fun h=>h1 (.inl h);omega
  have hm:(((onP day x).length:Int)-1)*B.1.1≤(((onP day x).length:Int)-1)*B.1.2:=Int.mul_le_mul_of_nonneg_left (by omega) (by omega)
  have:=abc hr hft (onP day x) ((((onP day x).length:Int)-1)*b.1.1,(((onP day x).length:Int)-1)*b.1.2) (max 0 (((onP day x).length:Int)-1)*(if long then B.1.2 else B.1.1)) (by rw[hk,←hfilm]; dsimp only; split<;>omega) (by rw[hk,←hfilm]; dsimp only; split<;>omega)
  unfold af2;dsimp only;rw[Bool.and_eq_true,decide_eq_true_eq,decide_eq_true_eq];exact this
 ·obtain⟨r,er⟩:=J4 hr.good hr.num hnd (by omega) ls long;exact⟨r,er,SW hIB.size hIB.num ls,fun h=>absurd h hft⟩
theorem yE {day:Int} {x y:List Int} (e:(Ŕ b day x y).2=0):argD day x y=true∧(Č b (onP day (x++y))).2=0∧(Ŕ b day x y).1=MK (Č b (onP day (x++y))).1 b.1 day x y:=by
 unfold Ŕ at e ⊢
 by_cases hc:ß b=0
 case neg=>rw[if_pos hc] at e; exact absurd e hc
 rw[if_neg (by simp[hc])] at e ⊢
 cases ha:argD day x y with
 |false=>rw[if_pos ha] at e; cases e
 |true =>
  rw[if_neg (by rw[ha]; simp)] at e; rw[if_neg (by simp)]
  by_cases ho:(Č b (onP day (x++y))).2=0
  case neg=>rw[if_pos ho] at e; exact absurd e ho
  rw[if_neg (by simp[ho])];exact⟨rfl,ho,rfl⟩
theorem ph_B (day:Int) {x y:List Int} (ls:List Int) (long:Bool) (e:(Ŕ b day x y).2=0) :
 ∃z:Ü×Bool,Ο b (onP day x++onP day y)=some z∧z.2=true∧∃r r':Int×Bool,ġ z.1 (onP day x) ls long=some r∧ġ z.1 (onP day y) ls (!long)=some r'∧kQ z.1 ls=some (zl z.1 ls) ∧
  (zl z.1 ls=(true,0)→r.2=true∧r'.2=true∧(-9223372036854775808≤r.1-r'.1∧r.1-r'.1≤9223372036854775807)∧(decide ((Ŕ b day x y).1.1≤r.1-r'.1)&&decide (r.1-r'.1≤(Ŕ b day x y).1.2))=true):=by
 obtain⟨ha,ho,ed⟩:=yE hI e;rw[ed];unfold argD at ha;simp only[Bool.and_eq_true,decide_eq_true_eq] at ha;obtain⟨⟨_,hx3⟩,⟨_,hy3⟩,hne,_⟩:=ha
 have eo:onP day (x++y)=onP day x++onP day y:=by simp[onP]
 rw[eo] at ho ⊢
 have hlx:(onP day x).length=x.length:=by simp[onP]
 have hly:(onP day y).length=y.length:=by simp[onP]
 obtain⟨hr,hB,hr0,hg0⟩:=Λ hI ho;have hA:=yd hI ho;have hfilm:=KC ho hI
 obtain⟨z,hz,hz1,hz2⟩:=Yk hI (ns:=onP day x++onP day y) (by rw[cG]; omega) (fun h=>by
  have:=congrArg List.length h;rw[cG] at this;simp only[dn] at this
  omega)
 have hw:=hz2 (hz1.2 ⟨hg0,hr0⟩);rw[←hB] at hw;have hnd:=hA.nodes;generalize (Č b (onP day x++onP day y)).1=B at hr hA hfilm hnd hw ⊢;subst hw;have hIB:=hr.good.inn hr.num;have hnx:∀n∈onP day x,ln B n:=fun n hn=>hnd n (dJ _ hn);have hny:∀n∈onP day y,ln B n:=fun n hn=>hnd n (du _ hn);refine⟨_,hz,rfl,?_⟩
 by_cases hft:zl B ls=(true,0)
 ·have l1:=Im.1 (Fw.1 hft).2.1;refine⟨_,_,Qd hr.good hr.num hnx (by omega) l1.1 l1.2 long,Qd hr.good hr.num hny (by omega) l1.1 l1.2 (!long),SW hIB.size hIB.num ls,fun _=>⟨rfl,rfl,?_⟩⟩;have hf:=hr.good.film;dsimp only;rw[Wv,Wv,hlx,hly];have hp:Pot (Ý B) (gv (0::ls)):=VA.1 (Fw.1 hft).2.2;have g1:=abY hr hp rfl (onP day x) (onP day y);have g2:=abY hr hp rfl (onP day y) (onP day x);have bd:=Zg hr (f:=b.1) (by rw[←hfilm]; omega) day hx3 hy3;have m1:max 0 ((x.length:Int)-1)*b.1.1≤max 0 ((x.length:Int)-1)*b.1.2:=Int.mul_le_mul_of_nonneg_left (by rw[←hfilm]; omega) (by omega);have m2:max 0 ((y.length:Int)-1)*b.1.1≤max 0 ((y.length:Int)-1)*b.1.2:=Int.mul_le_mul_of_nonneg_left (by rw[←hfilm]; omega) (by omega);rw[hfilm]
  have key:(MK B b.1 day x y).1≤max 0 ((x.length:Int)-1)*(if long=true then b.1.2 else b.1.1)+JB (gv (0::ls)) (atL B (onP day x))-(max 0 ((y.length:Int)-1)*(if (!long)=true then b.1.2 else b.1.1)+JB (gv (0::ls)) (atL B (onP day y))) ∧
   max 0 ((x.length:Int)-1)*(if long=true then b.1.2 else b.1.1)+JB (gv (0::ls)) (atL B (onP day x))-(max 0 ((y.length:Int)-1)*(if (!long)=true then b.1.2 else b.1.1)+JB (gv (0::ls)) (atL B (onP day y)))≤(MK B b.1 day x y).2:=by
   unfold MK;dsimp only
   cases long with
   |true=>rw[if_pos rfl,if_neg (by simp)]; omega
   |false=>rw[if_neg (by simp),if_pos (by rfl)]; omega
  refine⟨by omega,?_⟩;rw[cF,decide_eq_true_eq,decide_eq_true_eq];exact key
 ·obtain⟨r,er⟩:=J4 hr.good hr.num hnx (by omega) ls long;obtain⟨r',er'⟩:=J4 hr.good hr.num hny (by omega) ls (!long);exact⟨r,r',er,er',SW hIB.size hIB.num ls,fun h=>absurd h hft⟩
theorem ph_C {day:Int} {x y:List Int} (e:(Ŕ b day x y).2=0) (e':(Ŕ b day y x).2=0):(Ŕ b day y x).1=(-(Ŕ b day x y).1.2,-(Ŕ b day x y).1.1):=by
 obtain⟨ha,ho,ed⟩:=yE hI e;obtain⟨ha',ho',ed'⟩:=yE hI e';rw[ed,ed'];have hA:=yd hI ho;have hA':=yd hI ho'
 have mx:∀n∈onP day x,n∈onP day (x++y)∧n∈onP day (y++x):=fun n hn=>by
  unfold onP at hn ⊢;rw[List.map_append,List.map_append];exact⟨List.mem_append_left _ hn,List.mem_append_right _ hn⟩
 have my:∀n∈onP day y,n∈onP day (x++y)∧n∈onP day (y++x):=fun n hn=>by
  unfold onP at hn ⊢;rw[List.map_append,List.map_append];exact⟨List.mem_append_right _ hn,List.mem_append_left _ hn⟩
 have s1:=T6 hA hA' mx my;have s2:=T6 hA hA' my mx;unfold MK;rw[←s1,←s2];exact Prod.ext (by dsimp only; omega) (by dsimp only; omega)
end
theorem Qv {b:Ü} (hn:∀g∈b.2.1,I64 g.2.2.2.2.1.1) (day:Int) (x y ls:List Int) (long:Bool):jR b day x y ls long=some true:=by
 unfold jR jG;rw[few_ok,À,ZO]
 by_cases hf:fewP b=true
 case neg=>rw[ez.2 hf]; rfl
 have hI:In b:=⟨aeK hf,hn⟩;rw[hf,Õ (by rfl),á,á,á]
 by_cases h6:6<x.length
 ·rw[Þ (decide_eq_true (by omega)),À]
 rw[Õ (decide_eq_false (by omega))]
 by_cases h7:6<y.length
 ·rw[Þ (decide_eq_true (by omega)),À]
 rw[Õ (decide_eq_false (by omega))]
 by_cases h8:70<ls.length
 ·rw[Þ (decide_eq_true (by omega)),À]
 rw[Õ (decide_eq_false (by omega)),adC hI day (by omega),À,Wd hI day (by omega) (by omega),À];refine(aed day (by omega) _).trans ?_
 have C:(Ŕ b day x y).2=0→(Â (Ę b day y x) fun r49=>Â (some true) fun r50=>ifb r50 (ifb (ine r49.2 (0:Int)) (some true) (ck ((0:Int)-(Ŕ b day x y).1.2) fun n51=>ck ((0:Int)-(Ŕ b day x y).1.1) fun n52=>some ((ĩ r49.1.1 n51)&&((ĩ r49.1.2 n52)&&true)))) (some false))=some true:=fun e=>by
  rw[Wd hI day (by omega) (by omega),À,À,Ĥ]
  by_cases e':(Ŕ b day y x).2=0
  case neg=>rw[Þ (bne_iff_ne.2 e')]
  rw[Õ (by rw[e']; rfl),ph_C hI e e'];obtain⟨ha,ho,ed⟩:=yE hI e;unfold argD at ha;simp only[Bool.and_eq_true,decide_eq_true_eq] at ha;have hr:=(Λ hI ho).1;have hfl:=hr.good.film;have bd:=Zg hr (f:=b.1) (by rw[←KC ho hI]; omega) day ha.1.2 ha.2.1.2;rw[←ed] at bd;rw[Û (by omega) (by omega),Û (by omega) (by omega)];dsimp only;rw[Int.zero_sub,Int.zero_sub];simp[ĩ]
 have B:(ifb (ine (Ŕ b day x y).2 (0:Int)) (Â (some true) fun r41=>some r41) (Í (fun(v61:(Val (.pair tI (.slice Ã)))) kk64=>ø day y v61.1 v61.2 (fun u62 u63=>kk64 (u62,u63)) (fun z42=>ç (è (0+(List.length (onP day x)))) (ç (è ((List.length (([])++(onP day x)))+(List.length z42))) (Â (Ο b ((([])++(onP day x))++z42)) fun r43=>Â (ġ r43.1 (onP day x) ls long) fun r44=>Â (ġ r43.1 z42 ls (!long)) fun r45=>Â (kQ r43.1 ls) fun r46=>ifb (!r43.2) (some false) (ifb (ieq r46.2 (0:Int)) (ifb r46.1 (ifb (!r44.2) (some false) (ifb (!r45.2) (some false) (ck (r44.1-r45.1) fun n47=>Â (ip n47 (Ŕ b day x y).1) fun r48=>ifb (!r48) (some false) (Â (Ę b day y x) fun r49=>Â (some true) fun r50=>ifb r50 (ifb (ine r49.2 (0:Int)) (some true) (ck ((0:Int)-(Ŕ b day x y).1.2) fun n51=>ck ((0:Int)-(Ŕ b day x y).1.1) fun n52=>some ((ĩ r49.1.1 n51)&&((ĩ r49.1.2 n52)&&true)))) (some false))))) (Â (Ę b day y x) fun r49=>Â (some true) fun r50=>ifb r50 (ifb (ine r49.2 (0:Int)) (some true) (ck ((0:Int)-(Ŕ b day x y).1.2) fun n51=>ck ((0:Int)-(Ŕ b day x y).1.1) fun n52=>some ((ĩ r49.1.1 n51)&&((ĩ r49.1.2 n52)&&true)))) (some false))) (Â (Ę b day y x) fun r49=>Â (some true) fun r50=>ifb r50 (ifb (ine r49.2 (0:Int)) (some true) (ck ((0:Int)-(Ŕ b day x y).1.2) fun n51=>ck ((0:Int)-(Ŕ b day x y).1.1) fun n52=>some ((ĩ r49.1.1 n51)&&((ĩ r49.1.2 n52)&&true)))) (some false))))))) ((0:Int),[])))=some true:=by
  by_cases e:(Ŕ b day x y).2=0
  case neg=>rw[Þ (bne_iff_ne.2 e),À]
  have hC:=C e;rw[Õ (by rw[e]; rfl)];refine(aec day (by omega) _).trans ?_;obtain⟨z,hz,z2,r,r',er,er',ef,hi⟩:=ph_B hI day ls long e
  have lx:(onP day x).length=x.length:=by simp[onP]
  have ly:(onP day y).length=y.length:=by simp[onP]
  rw[ģ (Ø (by omega)),fq,ģ (Ø (by omega)),hz,À,er,À,er',À,ef,À,z2,Õ (by rfl),hC]
  by_cases f2:(zl z.1 ls).2=0
  case neg=>rw[Õ (beq_eq_false_iff_ne.2 f2)]
  rw[Þ (beq_iff_eq.2 f2)]
  cases f1:(zl z.1 ls).1 with
  |false=>rw[ã]
  |true =>
   obtain⟨a1,a2,a3,a4⟩:=hi (Prod.ext f1 f2);rw[Ĥ,a1,a2,Õ (by rfl),Õ (by rfl),Û (by omega) (by omega),PM,À,a4,Õ (by rfl)]
 simp only[B]
 by_cases e:(Wb b day x).2=0
 case neg=>rw[Õ (beq_eq_false_iff_ne.2 e)]
 rw[Þ (beq_iff_eq.2 e)];obtain⟨z,hz,z2,r,er,ef,hi⟩:=ph_A hI day (by omega) ls long e;rw[hz,À,er,À,ef,À,z2,Õ (by rfl)]
 by_cases f2:(zl z.1 ls).2=0
 case neg=>rw[Õ (beq_eq_false_iff_ne.2 f2)]
 rw[Þ (beq_iff_eq.2 f2)]
 cases f1:(zl z.1 ls).1 with
 |false=>rw[ã]
 |true =>
  obtain⟨a1,a2⟩:=hi (Prod.ext f1 f2);rw[Ĥ,a1,Õ (by rfl),PM,À,a2,Õ (by rfl)]
end Go.Proofs.ZzM
end
