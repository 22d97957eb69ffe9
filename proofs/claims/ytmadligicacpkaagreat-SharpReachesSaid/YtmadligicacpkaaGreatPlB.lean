/- lemmas -/
import Derived.Test.YtmadligicacpkaaGreatPlA
import Derived.Test.YtmadligicacpkaaGreatMdTA
set_option linter.all false
set_option linter.unusedSectionVars false
set_option linter.unusedVariables false
set_option linter.unusedSimpArgs false
noncomputable section
namespace Go.Proofs.ZzM
open Go Go.Am
section
variable {L:List Lk} {N:Nat}
def Wl.app {u v:Int} {vs:List Int} {d:Int} (h1:Wl L (fun x=>x=u) vs v d) {ws:List Int} {w e:Int} (h2:Wl L (fun x=>x=v) ws w e):∃xs,Wl L (fun x=>x=u) xs w (d+e):=by
 induction h2 with
 |nil h=>subst h; exact⟨vs,by rw[fX]; exact h1⟩
 |step hw hx ih =>
  obtain⟨xs,hi⟩:=ih;have:=Wl.step hi hx;rw[Int.add_assoc] at this;exact⟨_,this⟩
def dst (L:List Lk) (N:Nat) (s t:Int):Int:=gv (nv L N s) t
def aiX (h:ĩ L N) (ht:Ax L N) (ho:ġ L N=true) {s t:Int} (hs:0≤s∧s<N) (hv:0≤t∧t<N):dst L N s t≤9007199254740992:=by
 have h2:=h.n60;obtain⟨p,hp⟩:=(ĭ h.links (by omega)).1 ho;obtain⟨vs,d,hw,hd⟩:=ht.from' s hs.1 hs.2;obtain⟨ws,e,hx,he⟩:=ht.to t hv.1 hv.2;obtain⟨xs,hy⟩:=Wl.app hw hx;have:=(δ h.links (by omega) hp hs).low t xs _ (Nr.2 hy);unfold dst;omega
def ae4 (h:ĩ L N) (ht:Ax L N) (ho:ġ L N=true) {s t:Int} (hs:0≤s∧s<N) (hv:0≤t∧t<N):dst L N s t≠ķ:=by
 have:=aiX h ht ho hs hv;unfold ķ;omega
def aiW (h:ĩ L N) (ht:Ax L N) (ho:ġ L N=true) {s:Int} (hs:0≤s∧s<N):Pot L (dst L N s):=by
 have h2:=h.n60;obtain⟨p,hp⟩:=(ĭ h.links (by omega)).1 ho;intro u v m hl;have hr:=h.inr _ hl;exact(δ h.links (by omega) hp hs).pot h.inr hl (ae4 h ht ho hs hr.1)
def ae3 (h:ĩ L N) (ho:ġ L N=true) {s:Int} (hs:0≤s∧s<N):dst L N s s=0:=adL h ho hs.1 hs.2
def Qm (h:ĩ L N) (ht:Ax L N) (ho:ġ L N=true) {s t:Int} (hs:0≤s∧s<N) (hv:0≤t∧t<N) {p:Int→Int} (hp:Pot L p):p t-p s≤dst L N s t:=by
 have h2:=h.n60;obtain⟨vs,hw⟩:=(δ h.links (by omega) hp hs).att t hv.1 hv.2 (ae4 h ht ho hs hv);obtain⟨u,hu,hx⟩:=(Nr.1 hw).pot hp;subst hu;exact hx
def aiY (h:ĩ L N) (ht:Ax L N) (ho:ġ L N=true) {x y:Int} (hx:0≤x∧x<N) (hy:0≤y∧y<N) {t:Int} (h1 : -(dst L N x y)≤t) (h2:t≤dst L N y x):∃p,Pot L p∧p x-p y=t:=by
 refine⟨fun v=>min (dst L N y v) (dst L N x v+t),fun u v m hl=>?_,?_⟩
 ·have a1:=aiW h ht ho hy u v m hl;have a2:=aiW h ht ho hx u v m hl;show min _ _≤min _ _+m;omega
 ·have e1:=ae3 h ho hx;have e2:=ae3 h ho hy;show min (dst L N y x) (dst L N x x+t)-min (dst L N y y) (dst L N x y+t)=t;omega
def G0 (h:ĩ L N) (ht:Ax L N) (ho:ġ L N=true) {x y:Int} (hx:0≤x∧x<N) (hy:0≤y∧y<N) : -(dst L N x y)≤dst L N y x:=by
 have h2:=h.n60;obtain⟨p,hp⟩:=(ĭ h.links (by omega)).1 ho;have a1:=Qm h ht ho hx hy hp;have a2:=Qm h ht ho hy hx hp;omega
def ae5 (h:ĩ L N) (ht:Ax L N) (ho:ġ L N=true) {s t:Int} (hs:0≤s∧s<N) (hv:0≤t∧t<N) : -9007199254740992≤dst L N s t∧dst L N s t≤9007199254740992:=by
 have a1:=aiX h ht ho hs hv;have a2:=aiX h ht ho hv hs;have a3:=G0 h ht ho hv hs;omega
def tz (h:ĩ L N) (ht:Ax L N) {s t:Int} (hs:0≤s∧s<N) (hv:0≤t∧t<N):gM L N s t=if ġ L N then(dst L N s t,0) else(0,9):=by
 unfold gM
 by_cases ho:ġ L N=true
 ·have hne:=ae4 h ht ho hs hv;unfold dst at hne ⊢;rw[if_neg (by simp[ho]),if_neg hne,if_pos ho]
 ·rw[if_pos (by simpa using ho),if_neg ho]
end
section
variable {b:Ü} {c:Cmp}
def am7 (h':đ (ë b c)):GL (ë b c) (ø (ë b c)):=by
 intro i g hg l hl;rw[adf];exact cN.2 (.inl (dm.2 ⟨g,cO hg,hl⟩))
def jx (h':đ (ë b c)):Ax (ø (ë b c)) ((Ê (ë b c)).length+1):=h'.tiedL (am7 h')
def jd (h':đ (ë b c)):ĩ (ø (ë b c)) ((Ê (ë b c)).length+1) :=
 h'.sys.sub (fun l hl=>List.mem_of_mem_take hl) (by unfold ø; rw[List.length_take]; omega)
def pl (h:đ b) (h':đ (ë b c)):ġ (ø (ë b c)) ((Ê (ë b c)).length+1)=ġ (ß b) ((Ê b).length+1):=by
 have n1:=h.sys.n60;have n2:=(jd h').n60;rw[dH,ĭ (jd h').links (by omega),ĭ h.sys.links (by omega)];exact(ahN h h').symm
def zq:c∈(ë b c).2.2.2.2.1:=by simp[ë]
def BZ (h':đ (ë b c)):0≤cx (ë b c) c∧cx (ë b c) c<((Ê (ë b c)).length+1:Nat):=(Xw h' zq).rng
def BX (h':đ (ë b c)):0≤cy (ë b c) c∧cy (ë b c) c<((Ê (ë b c)).length+1:Nat):=(Qq h' zq).rng
def dLo (b:Ü) (c:Cmp):Int:=-(dst (ø (ë b c)) ((Ê (ë b c)).length+1) (cx (ë b c) c) (cy (ë b c) c))
def dHi (b:Ü) (c:Cmp):Int:=dst (ø (ë b c)) ((Ê (ë b c)).length+1) (cy (ë b c) c) (cx (ë b c) c)
def QR (h:đ b) (h':đ (ë b (É c))):ĵ b c=if ġ (ß b) ((Ê b).length+1) then MW b (É c) (dLo b (É c),dHi b (É c)) else((0,0),9):=by
 have e:zf b (É c)=(ë b (É c),0):=by
  unfold zf;rw[if_neg (by simp[(ê b).2 h]),if_neg (by simp[(ê _).2 h'])]
 unfold ĵ;rw[e,tz (jd h') (jx h') (BX h') (BZ h'),tz (jd h') (jx h') (BZ h') (BX h'),pl h h']
 by_cases ho:ġ (ß b) ((Ê b).length+1)=true
 ·rw[if_pos ho,if_pos ho,if_pos ho];rfl
 ·rw[if_neg ho,if_neg ho,if_neg ho];rfl
def oo (hp:(ĵ b c).2=0):đ b∧đ (ë b (É c)):=by
 have hw:(zf b (É c)).2=0:=by
  unfold ĵ at hp
  by_cases hw:(zf b (É c)).2=0
  ·exact hw
  ·rw[if_pos hw] at hp; exact hp
 unfold zf at hw
 by_cases hb:ä b=0
 ·rw[if_neg (by simp[hb])] at hw
  by_cases hm:ä (ë b (É c))=0
  ·exact⟨(ê b).1 hb,(ê _).1 hm⟩
  ·rw[if_pos hm] at hw; exact absurd hw hm
 ·rw[if_pos hb] at hw; exact absurd hw hb
def abY {s:Int×Int} (h:(MW b c s).2=0):ac7 b c≤Dj b c∧MW b c s=((s.1+ac7 b c,s.2+Dj b c),0):=by
 unfold MW at h ⊢
 split at h
 ·simp at h
 ·rename_i hl;rw[if_neg hl];exact⟨by omega,rfl⟩
end
structure al3 (B:Ü):Prop where
 good:đ B
 op:ġ (ß B) ((Ê B).length+1)=true
 num:∀g∈B.2.1,I64 g.2.2.2.2.1.1
theorem ki {b:Ü} (hI:In b) {ns:List (Int×Int)} (e:(ā b ns).2=0):al3 (ā b ns).1∧(ā b ns).1=(ň b ns).1∧(ň b ns).2=0∧đ b:=by
 unfold ā at e ⊢
 by_cases hc:ä b=0
 ·rw[if_neg (by simp[hc])] at e ⊢
  by_cases hr:(ň b ns).2=0
  ·rw[if_neg (by simp[hr])] at e ⊢
   cases ho:ġ (ß (ň b ns).1) ((Ê (ň b ns).1).length+1) with
   |true =>
    rw[if_pos rfl];exact⟨⟨DE ((ê b).1 hc) hr,ho,by rw[tF hr]; exact hI.num⟩,rfl,hr,(ê b).1 hc⟩
   |false=>rw[ho] at e; simp at e
  ·rw[if_pos hr] at e; exact absurd e hr
 ·rw[if_pos hc] at e; exact absurd e hc
theorem Ŗ (B:Ü) (n:Int×Int):0≤pI B n.1 n.2∧pI B n.1 n.2<((Ê B).length+1:Nat):=by
 unfold pI
 cases h:gV (Ê B) n.1 n.2 with
 |none=>dsimp only; omega
 |some j=>have:=(jY h).1; dsimp only; omega
theorem KU {B:Ü} (h:đ B) (hn:∀g∈B.2.1,I64 g.2.2.2.2.1.1) (s:Sys) (n:Int×Int):ŵ (B,s) n=some (pI B n.1 n.2):=by
 unfold ŵ CO;rw[show ŗ (B,s).1 n=ŗ B n from rfl,QU (h.inn hn),À,Du h]
 split
 ·rename_i e; rw[e]
 ·rfl
theorem abt {B:Ü} {L:List Lk} {N:Nat} (h:ĩ L N) {to from':Int} (h1:0≤to∧to<N) (h2:0≤from'∧from'<N):Ć (B,(N:Int),L) to from'=some (gM L N from' to).1:=by
 unfold Ć rc;rw[show(B,(N:Int),L).2=((N:Int),L) from rfl,Hq h h2 h1,À]
def JC (B:Ü):Sys:=(((Ê B).length:Int)+1,ß B)
def Aw (B:Ü) (s t:Int):Int:=dst (ß B) ((Ê B).length+1) s t
def ivR (B:Ü) (n:Int×Int):Int×Int:=(-(Aw B (pI B n.1 n.2) 0),Aw B 0 (pI B n.1 n.2))
theorem wI (B:Ü):JC B=((((Ê B).length+1:Nat):Int),ß B):=by unfold JC; push_cast; rfl
theorem Ŏ (B:Ü):0≤(0:Int)∧(0:Int)<((Ê B).length+1:Nat):=by omega
section
variable {B:Ü} (h:al3 B)
include h
theorem Dn {s t:Int} (hs:0≤s∧s<((Ê B).length+1:Nat)) (ht:0≤t∧t<((Ê B).length+1:Nat)) : -9007199254740992≤Aw B s t∧Aw B s t≤9007199254740992 :=
 ae5 h.good.sys h.good.tied h.op hs ht
theorem Ad {to from':Int} (h1:0≤to∧to<((Ê B).length+1:Nat)) (h2:0≤from'∧from'<((Ê B).length+1:Nat)):Ć (B,JC B) to from'=some (Aw B from' to):=by
 rw[wI,abt h.good.sys h1 h2,tz h.good.sys h.good.tied h2 h1,if_pos h.op];rfl
theorem Ub (n:Int×Int):Ψ (B,JC B) n=some (-(Aw B (pI B n.1 n.2) 0)):=by
 unfold Ψ qZ;have hb:=Dn h (Ŗ B n) (Ŏ B);rw[KU h.good h.num,À,Ad h (Ŏ B) (Ŗ B n),À,Õ (by omega) (by omega)];congr 1;omega
theorem GA (n:Int×Int):gL (B,JC B) n=some (Aw B 0 (pI B n.1 n.2)):=by
 unfold gL lP;rw[KU h.good h.num,À,Ad h (Ŗ B n) (Ŏ B),À]
theorem uY (n:Int×Int):ū (B,JC B) n=some (ivR B n):=by
 unfold ū lO;rw[Ub h,À,GA h,À];rfl
end
def Hn (b:Ü) (n:Int×Int):(Int×Int)×Int:=if (ā b [n]).2≠0 then((0,0),(ā b [n]).2) else(ivR (ā b [n]).1 n,0)
theorem QT {b:Ü} (hI:In b) (n:Int×Int):mY b n=some (Hn b n):=by
 unfold mY xY Hn;refine(pP hI (ns:=[n]) (by simp) (fun e=>some (((0,0):Int×Int),e)) (fun e he=>by rw[Ė (by simp[ine,he])]) (fun z he=>by rw[Ė (by simp[ine,he])]) (fun _ _ _=>rfl)).trans ?_
 split
 ·rfl
 ·rename_i e;have hr:=(ki hI (by simpa using e)).1;dsimp only;rw[vg,show((((Ê (ā b [n]).1).length:Int)+1,ß (ā b [n]).1):Sys)=JC (ā b [n]).1 from rfl,uY hr,À]
theorem agQ {ρ:Type}:@rl ρ=@Ă ρ:=rfl
theorem ak7 {ρ:Type}:@xX ρ=@Ă ρ:=rfl
def btR (B:Ü) (m n:Int×Int):Int×Int:=(-(Aw B (pI B m.1 m.2) (pI B n.1 n.2)),Aw B (pI B n.1 n.2) (pI B m.1 m.2))
def X0 (b:Ü) (m n:Int×Int):(Int×Int)×Int:=if (ā b [m,n]).2≠0 then((0,0),(ā b [m,n]).2) else(btR (ā b [m,n]).1 m n,0)
theorem ag3 {b:Ü} (hI:In b) (m n:Int×Int):vu b m n=some (X0 b m n):=by
 unfold vu CY X0;rw[agQ];refine(pP hI (ns:=[m,n]) (by simp) (fun e=>some (((0,0):Int×Int),e)) (fun e he=>by rw[Ė (by simp[ine,he])]) (fun z he=>by rw[Ė (by simp[ine,he])]) (fun _ _ _=>rfl)).trans ?_
 split
 ·rfl
 ·rename_i e;have hr:=(ki hI (by simpa using e)).1;dsimp only;generalize (ā b [m,n]).1=B at hr ⊢;have hb:=Dn hr (Ŗ B m) (Ŗ B n)
  rw[vg,show((((Ê B).length:Int)+1,ß B):Sys)=JC B from rfl,KU hr.good hr.num,À,KU hr.good hr.num,À,Ad hr (Ŗ B n) (Ŗ B m),À,
   Õ (by omega) (by omega),Ad hr (Ŗ B m) (Ŗ B n),À]
  unfold btR;rw[Int.zero_sub]
def pK (s l:Int×Int):Int:=if l.1≤s.1∧s.2≤l.2 then 1 else if s.2<l.1∨l.2<s.1 then 2 else 3
theorem S0 (s l:Int×Int):pu s l=some (pK s l):=by
 unfold pu CM pK;simp only[Ğ,ile,ilt,decide_eq_true_eq]
 by_cases h1:l.1≤s.1<;>by_cases h2:s.2≤l.2<;>by_cases h3:s.2<l.1<;>by_cases h4:l.2<s.1<;>simp[h1,h2,h3,h4]
def aj9 (b:Ü) (n l:Int×Int):Int×Int:=if (ā b [n]).2≠0 then(0,(ā b [n]).2) else if l.2<l.1 then(0,1) else(pK (ivR (ā b [n]).1 n) l,0)
theorem amb {b:Ü} (hI:In b) (n l:Int×Int):GR b n l=some (aj9 b n l):=by
 unfold GR OP aj9;rw[ak7];refine(pP hI (ns:=[n]) (by simp) (fun e=>some ((0:Int),e)) (fun e he=>by rw[Ö (by simp[ine,he])]) (fun z he=>by rw[Ö (by simp[ine,he])]) (fun _ _ _=>rfl)).trans ?_
 split
 ·rfl
 ·rename_i e;have hr:=(ki hI (by simpa using e)).1;dsimp only
  by_cases hl:l.2<l.1
  ·rw[Ö (by simp[igt,hl]),if_pos hl]
  ·rw[Ò (by simp[igt]; omega),if_neg hl,vg,show((((Ê (ā b [n]).1).length:Int)+1,ß (ā b [n]).1):Sys)=JC (ā b [n]).1 from rfl,uY hr,À,S0,À]
def QW (x y:List Int):List Int×List Int×Int:=if !la x then([],[],1) else if !la y then([],[],1) else(å x y,å y x,0)
def abJ {x y:List Int} (hx:x.length≤100000) (hy:y.length≤100000):tq x y=some (QW x y):=by
 unfold tq IZ QW;rw[Gu (by omega),À]
 cases la x with
 |false=>rfl
 |true =>
  rw[Gu (by omega),À]
  cases la y with
  |false=>rfl
  |true =>
   rw[rA (by omega) (by omega),À,rA (by omega) (by omega),À];rfl
def aaZ (ls:List (List Int)) (i:Nat):(ls.take i).flatten.length≤ls.flatten.length:=by
 conv=>rhs; rw[←List.take_append_drop i ls,fo,cJ]
 omega
def oE {ls:List (List Int)} (hl:ls.length≤1000000) (hf:ls.flatten.length≤1000000):ì ls=some ls.flatten:=by
 have hk:∀n:Nat,n≤4000000→∀(f:Int→Option (List Int)),ck (n:Int) f=f n:=fun n h f=>Õ (by omega) (by omega) f
 have second:Ñ (fun(v9:(Val (.pair tI (.slice tI)))) kk12=>ï ls (Ý ls) v9.1 v9.2 (fun u10 u11=>kk12 (u10,u11)) (fun z8=>some z8)) ((0:Int),([]:List Int))=some ls.flatten:=by
  refine ð ls (fun i=>(ls.take i).flatten) (some ls.flatten) (f:=fun(v9:(Val (.pair tI (.slice tI)))) kk12=>ï ls (Ý ls) v9.1 v9.2 (fun u10 u11=>kk12 (u10,u11)) (fun z8=>some z8)) rfl (fun i x hi hx kn=>?_) (fun kn=>?_)
  ·try dsimp only
   unfold ï;have h1:=aaZ ls (i+1);rw[take_succ hx,List.flatten_append,List.length_append] at h1;simp only[List.flatten_cons,List.flatten_nil,List.append_nil] at h1;rw[Ó hi,Ë hx,Î hi (by omega),take_succ hx,List.flatten_append];have:ç ((List.take i ls).flatten.length+x.length)=true:=Ô (by omega);rw[Ė this];simp
  ·try dsimp only
   unfold ï;rw[à];simp
 unfold ì iE;refine Ņ (fun x:Int×Int=>∃i:Nat,i≤ls.length∧x=(((ls.take i).flatten.length:Int),(i:Int))) (fun x=>ls.length-x.2.toNat) ?_ ⟨0,by omega,rfl⟩;rintro x ⟨i,hi,rfl⟩;rcases Nat.lt_or_ge i ls.length with h2|h2
 ·refine .inr ⟨(((ls.take (i+1)).flatten.length:Int),(i:Int)+1),⟨i+1,h2,by simp⟩,by simp; omega,fun kn=>?_⟩;obtain⟨x,hx⟩:∃x,ls[i]?=some x:=⟨_,cG h2⟩;have h1:=aaZ ls (i+1);rw[take_succ hx,fo,cJ] at h1;simp only[fT,f0,dF] at h1
  try dsimp only
  unfold Į;rw[Ó h2,Ë hx,æ]
  have e1:(((List.take i ls).flatten.length:Int)+(x.length:Int))=((List.take i ls).flatten.length+x.length:Nat):=by omega
  rw[e1,hk _ (by omega)]
  have:ilt ((((List.take i ls).flatten.length+x.length:Nat)):Int) 0=false:=by simp[ilt]; omega
  rw[Ò this,Î h2 (by omega),take_succ hx];simp
 ·refine .inl fun kn=>?_
  obtain rfl:i=ls.length:=by omega
  try dsimp only
  unfold Į;rw[à,List.take_length];have e2:ilt ((ls.flatten.length:Nat):Int) 0=false:=decide_eq_false (by omega);dsimp only;rw[Ò e2,Int.sub_zero,hk _ (by omega)];rcases Nat.eq_zero_or_pos ls.flatten.length with h0|h0
  ·have:igt (ls.flatten.length:Int) 0=false:=decide_eq_false (by omega);rw[Ò this];exact second
  ·have:igt (ls.flatten.length:Int) 0=true:=decide_eq_true (by omega);rw[Ö this]
   have:((ilt (0:Int) (ls.flatten.length:Int))&&(ç (Int.toNat (ls.flatten.length:Int))))=true:=by
    rw[di,Ô (by omega),gw];exact decide_eq_true (by omega)
   rw[Ė this];have:ile 0 (č (List.replicate (Int.toNat (ls.flatten.length:Int)) (0:Int)))=true:=decide_eq_true (Int.natCast_nonneg _);rw[Ė this];exact second
def onP (day:Int) (ids:List Int):List (Int×Int):=ids.map fun id=>(id,day)
def aho {day:Int} {ls:List (List Int)} (hl:ls.length≤1000000) (hf:ls.flatten.length≤1000000):GP day ls=some (onP day ls.flatten):=by
 unfold GP OC;rw[oE hl hf,À];refine ð ls.flatten (fun i=>onP day (ls.flatten.take i)) _ rfl (fun i x hi hx kn=>?_) (fun kn=>?_)
 ·try dsimp only
  unfold qm;rw[Ó hi,Ë hx,Î hi (by omega),take_succ hx];have:ç (List.length (onP day (ls.flatten.take i))+List.length ([(x,day)]))=true:=Ô (by simp[onP]; omega);rw[Ė this];simp[onP]
 ·try dsimp only
  unfold qm;rw[à,List.take_length]
def akx {l:List Int} (hl:l.length≤100000) (m:Int):ME l m=some (la l&&decide ((l.length:Int)≤m)):=by
 unfold ME V5;rw[abJ hl (by simp),À]
 have e0:la []=true:=by decide
 unfold QW;rw[e0,æ]
 cases la l<;>rfl
def amK (n:Int):GQ n=some (Hr n):=by
 unfold GQ OH Hr inP;rw[Ğ]
 by_cases h:0≤n
 ·rw[if_pos (by simpa[ige] using h)]; simp[h]
 ·rw[if_neg (by simpa[ige] using h)]; simp[h]
def alb {ρ α:Type} (l:List α) (i:Int) (f:α→Option ρ):è ((ile (0:Int) i)&&(ilt i (č l))) (ľ l (Int.toNat i) f)=ü l i f:=by
 unfold ü
 by_cases h0:0≤i
 ·by_cases h1:i<l.length
  ·have e:((ile (0:Int) i)&&(ilt i (č l)))=true:=by simp[ile,ilt,h0,h1]
   rw[Ė e];simp only[h0,decide_true];unfold ľ;rfl
  ·have e:((ile (0:Int) i)&&(ilt i (č l)))=false:=by simp[ile,ilt,h1]
   rw[e];simp only[h0,decide_true];rw[fB (by omega)];rfl
 ·have e:((ile (0:Int) i)&&(ilt i (č l)))=false:=by simp[ile,ilt,h0]
  rw[e];simp only[h0,decide_false];rfl
def amT {ρ:Type} (ns:List (Int×Int)) (n:Int):@uq ρ ns n=@Ă ρ n ns:=by
 funext v0 v1 v2 v3 v4 v5 v6 v7 kn k0 k1;unfold uq Ă;rw[alb]
def aec (B:Ü) (ns:List (Int×Int)) (s:Int×Int):Int×Int:=ns.foldl (fun s n=>(s.1+(ivR B n).1,s.2+(ivR B n).2)) s
def pileR (B:Ü) (f:Int×Int) (ns:List (Int×Int)):Int×Int:=aec B ns (((ns.length:Int)-1)*f.1,((ns.length:Int)-1)*f.2)
def anH (b:Ü) (day:Int) (ids:List Int):(Int×Int)×Int :=
 if ä b≠0 then((0,0),ä b) else if ids.length=0∨la ids=false∨Hr day=false then((0,0),1) else
 if (ā b (onP day ids)).2≠0 then((0,0),(ā b (onP day ids)).2) else(pileR (ā b (onP day ids)).1 b.1 (onP day ids),0)
def abU (B:Ü) (x y:List (Int×Int)) (s:Int×Int):aec B (x++y) s=aec B y (aec B x s):=by unfold aec; rw[List.foldl_append]
def ahk {B:Ü} (h:al3 B):∀(ns:List (Int×Int)) (s:Int×Int) (m:Int),-m≤s.1∧s.1≤m→-m≤s.2∧s.2≤m →
 (-(m+ns.length*9007199254740992)≤(aec B ns s).1∧(aec B ns s).1≤m+ns.length*9007199254740992)∧(-(m+ns.length*9007199254740992)≤(aec B ns s).2∧(aec B ns s).2≤m+ns.length*9007199254740992)
 |[],s,m,h1,h2=>by unfold aec; simp; omega
 |n::t,s,m,h1,h2=>by
  have b1:=Dn h (Ŗ B n) (Ŏ B);have b2:=Dn h (Ŏ B) (Ŗ B n);have:=ahk h t (s.1+(ivR B n).1,s.2+(ivR B n).2) (m+9007199254740992) (by unfold ivR; dsimp only; omega) (by unfold ivR; dsimp only; omega);show(-(m+((n::t).length:Nat)*9007199254740992)≤(aec B t _).1∧_)∧_;unfold aec at this ⊢;simp only[List.foldl_cons,List.length_cons];push_cast;omega
def anG {b:Ü} (hI:In b) (day:Int) {ids:List Int} (hl:ids.length≤1000):MF b day ids=some (anH b day ids):=by
 unfold MF Wm anH;rw[iH hI.size hI.num,À,akx (by omega),À,amK,À,æ]
 by_cases hc:ä b=0
 ·rw[Ò (by simp[ine,hc]),if_neg (show ¬(ä b≠0) from fun h=>h hc)]
  by_cases h0:ids.length=0
  ·rw[Ö (by simp[ieq,h0]),if_pos (.inl h0)]
  ·rw[Ò (beq_eq_false_iff_ne.2 (by omega))]
   by_cases h1:la ids=true
   ·have hp:=(DI ids).1 h1
    have e1:(la ids&&decide ((ids.length:Int)≤6))=true:=by rw[h1]; simp; omega
    rw[e1,Ò (by rfl)]
    by_cases h2:Hr day=true
    ·have hg:=(ê b).1 hc;rw[Ò (by rw[h2]; rfl),if_neg (by simp[h0,h1,h2]),aho (by simp) (by simp; omega),À]
     have hlen:(onP day ids).length=ids.length:=by simp[onP]
     rw[show([ids]:List (List Int)).flatten=ids by simp,amT,←iH hI.size hI.num];refine(pP hI (ns:=onP day ids) (by omega) (fun e=>some (((0,0):Int×Int),e)) (fun e he=>by rw[Ö (by simp[ine,he])]) (fun z he=>by rw[Ö (by simp[ine,he])]) (fun _ _ _=>rfl)).trans ?_
     split
     ·rfl
     ·rename_i e;have hr:=(ki hI (by simpa using e)).1;have hf:=hg.film;dsimp only;generalize (ā b (onP day ids)).1=B at hr ⊢
      have hm:∀x:Int,0≤x→x≤1000000→0≤((ids.length:Int)-1)*x∧((ids.length:Int)-1)*x≤10000000:=by
       intro x h0 h1;have:((ids.length:Int)-1)*x≤5*1000000:=ff (by omega) h1 h0 (by omega);exact⟨fH (by omega) h0,by omega⟩
      have m1:=hm b.1.1 (by omega) (by omega);have m2:=hm b.1.2 (by omega) (by omega);rw[Õ (by omega) (by omega),Õ (by omega) (by omega),Õ (by omega) (by omega),vg,show((((Ê B).length:Int)+1,ß B):Sys)=JC B from rfl];unfold pileR;rw[hlen];refine ð (onP day ids) (fun i=>aec B ((onP day ids).take i) (((ids.length:Int)-1)*b.1.1,((ids.length:Int)-1)*b.1.2)) _ rfl (fun i n hi hn kn=>?_) (fun kn=>?_)
      ·try dsimp only
       unfold un;have b1:=Dn hr (Ŗ B n) (Ŏ B);have b2:=Dn hr (Ŏ B) (Ŗ B n);have bs:=ahk hr ((onP day ids).take i) (((ids.length:Int)-1)*b.1.1,((ids.length:Int)-1)*b.1.2) 10000000 (by dsimp only; omega) (by dsimp only; omega)
       have bl:(((onP day ids).take i).length:Int)≤6:=by rw[cY]; omega
       rw[Ó hi,Ë hn,uY hr,À,take_succ hn,abU];generalize aec B ((onP day ids).take i) (((ids.length:Int)-1)*b.1.1,((ids.length:Int)-1)*b.1.2)=s at bs ⊢;unfold ivR;dsimp only;rw[Õ (by omega) (by omega),Õ (by omega) (by omega),Î hi (by omega)];rfl
      ·try dsimp only
       unfold un;rw[à,List.take_length]
    ·have h2':Hr day=false:=by simpa using h2
     rw[h2',Ö (by rfl),if_pos (.inr (.inr rfl))]
   ·have h1':la ids=false:=by simpa using h1
    rw[h1',Ö (by rfl),if_pos (.inr (.inl rfl))]
 ·rw[Ö (by simp[ine,hc]),if_pos hc]
def po {α:Type} (p:α→Bool) (l:List α) (i:Nat):((l.take i).filter p).length≤l.length:=by
 have h1:=dz p (l.take i);rw[cY] at h1;omega
def TG (x y:Int) (g:Bool):∀m:List (Int×Bool),rX (k:=tI) (v:=.bool) x (Mo (k:=tI) (v:=.bool) y g m)=if x=y then some g else rX (k:=tI) (v:=.bool) x m
 |[]=>by
  unfold Mo rX jV rX
  by_cases h:x=y<;>simp[h]
 |e::m=>by
  unfold Mo
  by_cases h:y=e.1
  ·have:jV tI y e.1=true:=by simp[jV,h]
   rw[this]
   try dsimp only
   unfold rX jV
   by_cases h2:x=y
   ·simp[h2]
   ·have:¬x=e.1:=fun h3=>h2 (h3.trans h.symm);simp[h2,this]
  ·have:jV tI y e.1=false:=by simp[jV,h]
   rw[this]
   try dsimp only
   have ih:=TG x y g m;unfold rX
   by_cases h2:x=e.1
   ·have:jV tI x e.1=true:=by simp[jV,h2]
    rw[this];have:¬x=y:=fun h3=>h (h3.symm.trans h2);simp[this]
   ·have:jV tI x e.1=false:=by simp[jV,h2]
    rw[this];exact ih
def Q0 (l:List Int):List (Int×Bool):=l.foldl (fun m x=>Mo (k:=tI) (v:=.bool) x true m) []
def wK (l:List Int) (x:Int):Q0 (l++[x])=Mo (k:=tI) (v:=.bool) x true (Q0 l):=by unfold Q0; rw[List.foldl_append]; rfl
def Ze (x:Int):∀(l:List Int) (m:List (Int×Bool)),rX (k:=tI) (v:=.bool) x (l.foldl (fun m x=>Mo (k:=tI) (v:=.bool) x true m) m)=if l.contains x then some true else rX (k:=tI) (v:=.bool) x m
 |[],m=>by simp
 |y::l,m=>by
  rw[fP,Ze x l,TG]
  by_cases h:x=y
  ·subst h; simp
  ·simp[h]
def Zc (l:List Int) (x:Int):rX (k:=tI) (v:=.bool) x (Q0 l)=if l.contains x then some true else none:=Ze x l []
def Dy (b:Ü) (s:Int×Int):List Int:=if s.1=3 then(match b.2.2.2.2.1[s.2.toNat]? with|some c=>c.2.2.1++c.2.2.2.1|none=>[]) else(match b.2.1[s.2.toNat]? with|some g=>[g.1]|none=>[])
def Qr (b:Ü) (ss looks:List (Int×Int)):List Int:=ss.flatMap (Dy b)++looks.map fun n=>n.1
def G6 (ss:List (Int×Int)):List Int:=(ss.filter fun s=>s.1==3).map fun s=>s.2
def Dh (w:List Int):Nat→List Cmp→List Cmp
 |_,[]=>[]
 |i,c::t=>if w.contains (i:Int) then c::Dh w (i+1) t else Dh w (i+1) t
def cutP (b:Ü) (ss looks:List (Int×Int)):Ü :=
 (b.1,b.2.1.filter fun g=>(Qr b ss looks).contains g.1,b.2.2.1.filter fun u=>(Qr b ss looks).contains u.1,b.2.2.2.1.filter fun l=>(Qr b ss looks).contains l.1,Dh (G6 ss) 0 b.2.2.2.2.1,looks)
def anC (b:Ü) (s:Int×Int):Prop:=((s.1=1∨s.1=2)∧0≤s.2∧s.2<b.2.1.length)∨(s.1=3∧0≤s.2∧s.2<b.2.2.2.2.1.length)
def Uc (w:List Int) (c:Cmp):∀(l:List Cmp) (i:Nat),Dh w i (l++[c])=Dh w i l++if w.contains ((i+l.length:Nat):Int) then[c] else[]
 |[],i=>by simp only[fN,Dh,dj,fk]
 |a::l,i=>by
  have e:((i+1+l.length:Nat):Int)=((i+(l.length+1):Nat):Int):=by congr 1; omega
  simp only[eM,Dh,Uc w c l (i+1),cW,e]
  split<;>rfl
def PW (w:List Int):∀(l:List Cmp) (i:Nat),(Dh w i l).length≤l.length
 |[],i=>by simp[Dh]
 |a::l,i=>by
  have:=PW w l (i+1);simp only[Dh]
  split<;>simp only[cW]<;>omega
def yG {ρ:Type} (x:Int) (l:List Int) (f:Bool→Option ρ) (g:Option ρ):X2 (k:=tI) (v:=.bool) x (Q0 l) f g=if l.contains x then f true else g:=by
 unfold X2;rw[Zc]
 by_cases h:l.contains x=true
 ·rw[if_pos h,if_pos h]
 ·rw[if_neg h,if_neg h]
section
variable {ρ:Type}
def cut_L3 (l:List (Int×Int)) (hl:l.length≤1000) (ids:List Int) (K:List (Int×Int)→Option ρ):Ñ (fun(v47:(Val (.pair tI (.slice Â)))) kk50=>sm l (Ý l) (Q0 ids) v47.1 v47.2 (fun u48 u49=>kk50 (u48,u49)) K) ((0:Int),[])=K (l.filter fun u=>ids.contains u.1):=by
 refine ð l (fun i=>(l.take i).filter fun u=>ids.contains u.1) _ rfl (fun i a hi ha kn=>?_) (fun kn=>?_)
 ·try dsimp only
  unfold sm;have h1:=po (fun u:Int×Int=>ids.contains u.1) l i;rw[Ó hi,Ë ha,yG,take_succ ha,List.filter_append]
  by_cases h:ids.contains a.1=true
  ·rw[if_pos h,ĺ,Ė (Ô (by simp only[dl]; omega)),Î hi (by omega)];simp only[dL,dR,h,if_pos]
  ·rw[if_neg h,Î hi (by omega)];simp only[dL,dR,h,if_neg,dg,not_false_eq_true,dF]
 ·try dsimp only
  unfold sm;rw[à,List.take_length]
def cut_L4 (l:List KV) (hl:l.length≤1000) (ids:List Int) (K:List KV→Option ρ):Ñ (fun(v47:(Val (.pair tI (.slice ņ)))) kk50=>sl l (Ý l) (Q0 ids) v47.1 v47.2 (fun u48 u49=>kk50 (u48,u49)) K) ((0:Int),[])=K (l.filter fun u=>ids.contains u.1):=by
 refine ð l (fun i=>(l.take i).filter fun u=>ids.contains u.1) _ rfl (fun i a hi ha kn=>?_) (fun kn=>?_)
 ·try dsimp only
  unfold sl;have h1:=po (fun u:KV=>ids.contains u.1) l i;rw[Ó hi,Ë ha,yG,take_succ ha,List.filter_append]
  by_cases h:ids.contains a.1=true
  ·rw[if_pos h,ĺ,Ė (Ô (by simp only[dl]; omega)),Î hi (by omega)];simp only[dL,dR,h,if_pos]
  ·rw[if_neg h,Î hi (by omega)];simp only[dL,dR,h,if_neg,dg,not_false_eq_true,dF]
 ·try dsimp only
  unfold sl;rw[à,List.take_length]
def cut_L5 (l:List Cmp) (hl:l.length≤1000) (hp:∀c∈l,c.2.2.1.length≤1000∧c.2.2.2.1.length≤1000) (w:List Int) (K:List Cmp→Option ρ):Ñ (fun(v47:(Val (.pair tI (.slice Ì)))) kk50=>sk l (Ý l) (Q0 w) v47.1 v47.2 (fun u48 u49=>kk50 (u48,u49)) K) ((0:Int),[])=K (Dh w 0 l):=by
 refine ð l (fun i=>Dh w 0 (l.take i)) _ rfl (fun i a hi ha kn=>?_) (fun kn=>?_)
 ·try dsimp only
  unfold sk;have h1:=PW w (l.take i) 0;have h2:=hp a (List.mem_of_getElem? ha)
  have e:(l.take i).length=i:=by rw[cY]; omega
  rw[Ó hi,Ë ha,yG,take_succ ha,Uc,e,df]
  by_cases h:w.contains (i:Int)=true
  ·rw[if_pos h,if_pos h,ĺ,Ė (Ô (by omega)),Ė (Ô (by omega)),Ė (Ô (by simp only[dl]; omega)),Î hi (by omega)]
  ·rw[if_neg h,if_neg h,Î hi (by omega)];simp only[dF]
 ·try dsimp only
  unfold sk;rw[à,List.take_length]
def cut_L2 (looks:List (Int×Int)) (hl:looks.length≤1000) (ids:List Int) (K:List (Int×Bool)→Option ρ):Ñ (fun(v51:(Val (.pair tI (.map tI .bool)))) kk54=>sn looks (Ý looks) v51.1 v51.2 (fun u52 u53=>kk54 (u52,u53)) K) ((0:Int),Q0 ids)=K (Q0 (ids++looks.map fun n=>n.1)):=by
 refine ð looks (fun i=>Q0 (ids++(looks.take i).map fun n=>n.1)) _ (by simp) (fun i a hi ha kn=>?_) (fun kn=>?_)
 ·try dsimp only
  unfold sn;rw[Ó hi,Ë ha,Î hi (by omega),take_succ ha,List.map_append,←List.append_assoc,List.map_singleton,wK]
 ·try dsimp only
  unfold sn;rw[à,List.take_length]
def cut_L1 (xs:List Int) (hl:xs.length≤10000) (ids:List Int) (K:List (Int×Bool)→Option ρ):Ñ (fun(v13:(Val (.pair tI (.map tI .bool)))) kk16=>sq xs (Ý xs) v13.1 v13.2 (fun u14 u15=>kk16 (u14,u15)) K) ((0:Int),Q0 ids)=K (Q0 (ids++xs)):=by
 refine ð xs (fun i=>Q0 (ids++xs.take i)) _ (by simp) (fun i a hi ha kn=>?_) (fun kn=>?_)
 ·try dsimp only
  unfold sq;rw[Ó hi,Ë ha,Î hi (by omega),take_succ ha,←List.append_assoc,wK]
 ·try dsimp only
  unfold sq;rw[à,List.take_length]
end
def jc {ρ α:Type} {l:List α} {i:Int} (h0:0≤i) {a:α} (h:l[i.toNat]?=some a) (f:α→Option ρ):ü l i f=f a:=by
 obtain⟨n,rfl⟩:=fL h0;exact Ë (by simpa using h) f
def cut_ok {b:Ü} (hs:ŷ b) {ss looks:List (Int×Int)} (h1:ss.length≤1000) (h2:looks.length≤1000) (hv:∀s∈ss,anC b s):Qf b ss looks=some (cutP b ss looks):=by
 have g1:=hs.gauges; have g2:=hs.uses; have g3:=hs.loans; have g4:=hs.compares; have g5:=hs.looks;unfold Qf ah9 Ff;refine ð ss (fun i=>(Q0 ((ss.take i).flatMap (Dy b)),Q0 (G6 (ss.take i)))) _ rfl (fun i s hi ha kn=>?_) (fun kn=>?_)
 ·try dsimp only
  unfold zw;have hok:=hv s (List.mem_of_getElem? ha);rw[Ó hi,Ë ha,take_succ ha,List.flatMap_append]
  have e3:G6 (ss.take i++[s])=G6 (ss.take i)++if s.1=3 then[s.2] else[]:=by
   unfold G6;rw[List.filter_append,List.map_append];congr 1
   by_cases h:s.1=3<;>simp[h]
  rw[e3];rcases hok with⟨hk,h0,h3⟩|⟨hk,h0,h3⟩
  ·have hg:b.2.1[s.2.toNat]?=some b.2.1[s.2.toNat]:=cG (by omega);generalize b.2.1[s.2.toNat]=g at hg
   have e1:Dy b s=[g.1]:=by
    unfold Dy;rw[if_neg (by omega),hg]
   have e2:List.flatMap (Dy b) [s]=[g.1]:=by simp[e1]
   rw[Ò (decide_eq_false (by omega)),if_neg (by omega),dF,e2,wK];rcases hk with hk|hk
   ·rw[Ö (decide_eq_true hk),jc h0 hg,Î hi (by omega)]
   ·rw[Ò (decide_eq_false (by omega)),Ö (decide_eq_true hk),jc h0 hg,Î hi (by omega)]
  ·have hc:b.2.2.2.2.1[s.2.toNat]?=some b.2.2.2.2.1[s.2.toNat]:=cG (by omega);have hp:=hs.piles b.2.2.2.2.1[s.2.toNat] (fc _);generalize b.2.2.2.2.1[s.2.toNat]=c at hc hp
   have e1:Dy b s=c.2.2.1++c.2.2.2.1:=by
    unfold Dy;rw[if_pos hk,hc]
   have e2:List.flatMap (Dy b) [s]=c.2.2.1++c.2.2.2.1:=by simp[e1]
   rw[Ò (decide_eq_false (by omega)),Ò (decide_eq_false (by omega)),Ò (decide_eq_false (by omega)),Ė (decide_eq_true hk),if_pos hk,e2,jc h0 hc,jc h0 hc,oE (by simp) (by simp; omega),À];rw[show([c.2.2.1,c.2.2.2.1]:List (List Int)).flatten=c.2.2.1++c.2.2.2.1 by simp];refine(cut_L1 (c.2.2.1++c.2.2.2.1) (by simp; omega) _ _).trans ?_;rw[wK,Î hi (by omega)]
 ·try dsimp only
  unfold zw;rw[à];dsimp only;rw[List.take_length];refine(cut_L2 looks h2 _ _).trans ?_;rw[show(ss.flatMap (Dy b)++looks.map fun n=>n.1)=Qr b ss looks from rfl];unfold zE
  try dsimp only
  rw[Ė (Ô (by omega)),À]
  have ek:(List.filter (fun g=>(rX (k:=tI) (v:=.bool) g.1 (Q0 (Qr b ss looks))).getD false) b.2.1)=b.2.1.filter fun g=>(Qr b ss looks).contains g.1:=by
   refine List.filter_congr fun g _=>?_;rw[Zc]
   cases(Qr b ss looks).contains g.1<;>rfl
  rw[ek];unfold mK;dsimp only;refine(cut_L3 b.2.2.1 g2 _ _).trans ?_;refine(cut_L4 b.2.2.2.1 g3 _ _).trans ?_;refine(cut_L5 b.2.2.2.2.1 g4 hs.piles _ _).trans ?_;rfl
def ahw {α:Type} [DecidableEq α] {l m:List α} (hl:l.length=m.length) (h:Ī (fun i a=>if m[i]?=some a then none else some false) 0 l=none):l=m:=by
 have:=ic.1 h;refine List.ext_getElem hl fun i h1 h2=>?_;have h3:=this i l[i] (cG h1);rw[df] at h3
 split at h3
 ·rename_i h4;rw[cG h2] at h4;exact(Option.some.inj h4).symm
 ·cases h3
def ahv {α:Type} [DecidableEq α] {l m:List α} {b:Bool} (h:Ī (fun i a=>if m[i]?=some a then none else some false) 0 l=some b):b=false∧l≠m:=by
 constructor
 ·have:∀(k:Nat) (x:List α) (b:Bool),Ī (fun i a=>if m[i]?=some a then none else some false) k x=some b→b=false:=by
   intro k x
   induction x generalizing k with
   |nil=>intro b h; cases h
   |cons a t ih =>
    intro b h;unfold Ī at h
    split at h
    ·rename_i c hc
     split at hc
     ·cases hc
     ·cases hc; cases h; rfl
    ·exact ih _ _ h
  exact this _ _ _ h
 ·intro e;subst e;rw[ic.2 fun j a ha=>by rw[df,if_pos ha]] at h;cases h
instance dec1:DecidableEq ((Int×Int)×Int):=fun a b=>instDecidableEqProd a b
instance dec2:DecidableEq ((Int×Int)×((Int×Int)×Int)):=fun a b=>instDecidableEqProd a b
instance dec3:DecidableEq (Int×(Int×Int)×((Int×Int)×Int)):=fun a b=>instDecidableEqProd a b
instance dec4:DecidableEq (Int×Int×(Int×Int)×((Int×Int)×Int)):=fun a b=>instDecidableEqProd a b
instance decG:DecidableEq é:=fun a b=>instDecidableEqProd a b
instance decL:DecidableEq KV:=fun a b=>instDecidableEqProd a b
instance decI4:DecidableEq (Int×(Int×(Int×Int))):=fun a b=>instDecidableEqProd a b
instance decI5:DecidableEq (List Int×Int×(Int×(Int×Int))):=fun a b=>instDecidableEqProd a b
instance decI6:DecidableEq (List Int×List Int×Int×(Int×(Int×Int))):=fun a b=>instDecidableEqProd a b
instance decI7:DecidableEq (Int×List Int×List Int×Int×(Int×(Int×Int))):=fun a b=>instDecidableEqProd a b
instance decC:DecidableEq Cmp:=fun a b=>instDecidableEqProd a b
def Vi {α:Type} [DecidableEq α] (x:α) (l:List α):Bool:=l.any fun a=>decide (x=a)
def aeF {α:Type} [DecidableEq α] {x:α} {l:List α}:Vi x l=true↔x∈l:=by
 unfold Vi;rw[List.any_eq_true];exact⟨fun⟨a,h1,h2⟩=>by rw[of_decide_eq_true h2]; exact h1,fun h=>⟨x,h,decide_eq_true rfl⟩⟩
def acl {α:Type} [DecidableEq α] (l:List α) (x:α):ige (match l.findIdx? (fun a=>decide (x=a)) with|some j=>(j:Int)|none=>-1) 0=Vi x l:=by
 cases h:l.findIdx? (fun a=>decide (x=a)) with
 |none =>
  have:Vi x l=false:=by
   cases hm:Vi x l with
   |false=>rfl
   |true=>have:=eh.1 h x (aeF.1 hm); simp at this
  rw[this];rfl
 |some j =>
  obtain⟨hj,hp,_⟩:=dG.1 h
  have:x∈l:=by rw[of_decide_eq_true hp]; exact fc _
  rw[aeF.2 this];exact decide_eq_true (by dsimp only; omega)
def ah4 {ρ:Type} (o:Option Nat) (f:Int→Option ρ):(match o with|some j=>f (j:Int)|none=>f (-1))=f (match o with|some j=>(j:Int)|none=>-1):=by cases o<;>rfl
def abH {l:List (Int×Int)} (hl:l.length≤1000000) (x:Int×Int):ė l x=some (Vi x l):=by
 unfold ė ť Χ Τ
 have e:Ñ (fun(v5:Int) kk7=>Ĕ l (Ý l) x.1 x.2 v5 (fun u6=>kk7 u6) (fun z3=>some z3) (fun _=>some (-1:Int))) (0:Int)=some (match l.findIdx? (fun a=>decide (x=a)) with|some j=>(j:Int)|none=>-1):=by
  refine(gI l (fun a=>decide (x=a)) (fun z=>some z) (some (-1)) (fun i a hi ha kn=>?_) (fun kn=>?_)).trans (ah4 _ some)
  ·try dsimp only
   unfold Ĕ
   have e:((ł x.1 a.1)&&((ł x.2 a.2)&&true))=decide (x=a):=by
    rw[dH]; simp[ł,gB]
   rw[Ó hi,Ë ha,Î hi (by omega),Ğ,e]
  ·try dsimp only
   unfold Ĕ;rw[à]
 rw[e,À];exact congrArg some (acl l x)
def XY {l:List KV} (hl:l.length≤1000000) (x:KV):Ċ l x=some (Vi x l):=by
 unfold Ċ Ŕ Ŵ Ų
 have e:Ñ (fun(v5:Int) kk7=>ĉ l (Ý l) x.1 x.2.1.1 x.2.1.2 x.2.2 v5 (fun u6=>kk7 u6) (fun z3=>some z3) (fun _=>some (-1:Int))) (0:Int)=some (match l.findIdx? (fun a=>decide (x=a)) with|some j=>(j:Int)|none=>-1):=by
  refine(gI l (fun a=>decide (x=a)) (fun z=>some z) (some (-1)) (fun i a hi ha kn=>?_) (fun kn=>?_)).trans (ah4 _ some)
  ·try dsimp only
   unfold ĉ
   have e:((ł x.1 a.1)&&((ł x.2.1.1 a.2.1.1)&&((ł x.2.1.2 a.2.1.2)&&((ł x.2.2 a.2.2)&&true))))=decide (x=a):=by
    rw[dH]; simp[ł,gB,and_assoc]
   rw[Ó hi,Ë ha,Î hi (by omega),Ğ,e]
  ·try dsimp only
   unfold ĉ;rw[à]
 rw[e,À];exact congrArg some (acl l x)
def abI {l:List é} (hl:l.length≤1000000) (x:é):ě l x=some (Vi x l):=by
 unfold ě Ń ţ Ţ
 have e:Ñ (fun(v5:Int) kk7=>þ l (Ý l) x.1 x.2.1 x.2.2.1 x.2.2.2.1.1 x.2.2.2.1.2 x.2.2.2.2.1.1 x.2.2.2.2.1.2 x.2.2.2.2.2 v5 (fun u6=>kk7 u6) (fun z3=>some z3) (fun _=>some (-1:Int))) (0:Int)=some (match l.findIdx? (fun a=>decide (x=a)) with|some j=>(j:Int)|none=>-1):=by
  refine(gI l (fun a=>decide (x=a)) (fun z=>some z) (some (-1)) (fun i a hi ha kn=>?_) (fun kn=>?_)).trans (ah4 _ some)
  ·try dsimp only
   unfold þ
   have e:((ł x.1 a.1)&&((ł x.2.1 a.2.1)&&((ł x.2.2.1 a.2.2.1)&&((ł x.2.2.2.1.1 a.2.2.2.1.1)&&((ł x.2.2.2.1.2 a.2.2.2.1.2)&&((ł x.2.2.2.2.1.1 a.2.2.2.2.1.1)&&((ł x.2.2.2.2.1.2 a.2.2.2.2.1.2)&&((ł x.2.2.2.2.2 a.2.2.2.2.2)&&true))))))))=decide (x=a):=by
    rw[dH]; simp[ł,gB,and_assoc]
   rw[Ó hi,Ë ha,Î hi (by omega),Ğ,e]
  ·try dsimp only
   unfold þ;rw[à]
 rw[e,À];exact congrArg some (acl l x)
def aiC (b:Ü):List Int:=b.2.1.map fun g=>g.1
def lv {α:Type} [DecidableEq α] (x y:List α) (w:α→Bool):Bool:=x.all fun a=>!w a||Vi a y
def akN (s b:Ü):Bool :=
 lv s.2.2.2.2.1 b.2.2.2.2.1 (fun _=>true)&&(decide (s.1=b.1)&&(lv s.2.1 b.2.1 (fun _=>true)&&(lv s.2.2.1 b.2.2.1 (fun u=>(aiC s).contains u.1)&&(lv b.2.2.1 s.2.2.1 (fun u=>(aiC s).contains u.1) &&
  (lv s.2.2.2.1 b.2.2.2.1 (fun u=>(aiC s).contains u.1)&&lv b.2.2.2.1 s.2.2.2.1 (fun u=>(aiC s).contains u.1))))))
section
variable {ρ:Type}
def Jt {α:Type} [DecidableEq α] (x y:List α) (w:α→Bool) (X Y KF:Option ρ) {f:Int→(Int→Option ρ)→Option ρ}
 (h:∀(i:Nat) (a:α),i<x.length→x[i]?=some a→∀kn,f i kn=if !(!w a||Vi a y) then(ifb (!(ige (i:Int) 0)) X KF) else kn ((i:Int)+1))
 (hn:∀kn,f x.length kn=Y):Ñ f 0=if lv x y w then Y else KF:=by
 refine(į x (fun a=>!(!w a||Vi a y)) (fun z=>ifb (!(ige z 0)) X KF) KF Y (fun j=>by rw[show ige (j:Int) 0=true from decide_eq_true (by omega)]; rfl) h hn).trans ?_;unfold lv;rw[List.all_eq_not_any_not]
 cases x.any fun a=>!(!w a||Vi a y)<;>rfl
def amW:@ud ρ=@lR ρ:=rfl
def T8 {x y:List Int} (hl:x.length=y.length) (hx:x.length≤1000000) (k0:Bool→Option ρ) (K:Option ρ) :
 Ñ (fun(v30:Int) kk32=>lR x y (Ý x) v30 (fun u31=>kk32 u31) k0 (fun _=>K)) (0:Int)=if x=y then K else k0 false:=by
 refine(j6 x (fun i a=>if y[i]?=some a then none else some false) k0 K (fun i a hi ha kn=>?_) (fun kn=>?_)).trans ?_
 ·try dsimp only
  unfold lR;have hm:y[i]?=some y[i]:=List.getElem?_eq_getElem (by omega);rw[Ó hi,Ë ha,Ë hm,Î hi (by omega),hm,Ğ]
  by_cases h:a=y[i]
  ·simp[ine,h]
  ·have h':¬y[i]=a:=fun e=>h e.symm;simp[ine,h,h']
 ·try dsimp only
  unfold lR;rw[à]
 ·cases h:Ī (fun i a=>if y[i]?=some a then none else some false) 0 x with
  |none=>rw[if_pos (ahw hl h)]
  |some b =>
   obtain⟨h1,h2⟩:=ahv h;rw[if_neg h2,h1]
def ahx {l:List Cmp} (hl:l.length≤1000) (c:Cmp) (hA:c.2.2.1.length≤1000) (hB:c.2.2.2.1.length≤1000) (k0:Int→Option ρ) (K1 KF:Option ρ) (hk:∀j:Nat,k0 (j:Int)=K1) :
 Ñ (fun(v41:Int) kk43=>oZ l (Ý l) c.1 c.2.1 c.2.2.1 c.2.2.2.1 c.2.2.2.2.1 c.2.2.2.2.2.1 c.2.2.2.2.2.2.1 c.2.2.2.2.2.2.2 v41 (fun u42=>kk43 u42) k0 (fun _=>KF)) (0:Int)=if Vi c l then K1 else KF:=by
 refine(į l (fun d=>decide (c=d)) k0 K1 KF hk (fun i d hi hd kn=>?_) (fun kn=>?_)).trans rfl
 ·try dsimp only
  unfold oZ
  have hsplit:(c=d)↔(c.1=d.1∧c.2.1=d.2.1∧c.2.2.2.2.1=d.2.2.2.2.1∧c.2.2.2.2.2.1=d.2.2.2.2.2.1∧(c.2.2.2.2.2.2.1=d.2.2.2.2.2.2.1∧c.2.2.2.2.2.2.2=d.2.2.2.2.2.2.2)∧c.2.2.1=d.2.2.1∧c.2.2.2.1=d.2.2.2.1):=by
   simp only[gB];constructor
   ·rintro⟨a1,a2,a3,a4,a5,a6,a7,a8⟩; exact⟨a1,a2,a5,a6,⟨a7,a8⟩,a3,a4⟩
   ·rintro⟨a1,a2,a5,a6,⟨a7,a8⟩,a3,a4⟩; exact⟨a1,a2,a3,a4,a5,a6,a7,a8⟩
  have hno:∀{P:Prop},¬P→(c=d→P)→(if decide (c=d)=true then k0 (i:Int) else kn ((i:Int)+1))=kn ((i:Int)+1):=fun h1 h2=>by
   rw[if_neg];intro h;exact h1 (h2 (of_decide_eq_true h))
  rw[Ó hi,Ë hd,Î hi (by omega)]
  by_cases a1:c.1=d.1
  case neg=>rw[hno a1 (fun e=>(hsplit.1 e).1),Ò (beq_eq_false_iff_ne.2 a1)]
  rw[Ö (beq_iff_eq.2 a1)]
  by_cases a2:c.2.1=d.2.1
  case neg=>rw[hno a2 (fun e=>(hsplit.1 e).2.1),Ò (beq_eq_false_iff_ne.2 a2)]
  rw[Ö (beq_iff_eq.2 a2)]
  by_cases a3:c.2.2.2.2.1=d.2.2.2.2.1
  case neg=>rw[hno a3 (fun e=>(hsplit.1 e).2.2.1),Ò (beq_eq_false_iff_ne.2 a3)]
  rw[Ö (beq_iff_eq.2 a3)]
  by_cases a4:c.2.2.2.2.2.1=d.2.2.2.2.2.1
  case neg=>rw[hno a4 (fun e=>(hsplit.1 e).2.2.2.1),Ò (beq_eq_false_iff_ne.2 a4)]
  rw[Ö (beq_iff_eq.2 a4)]
  by_cases a5:c.2.2.2.2.2.2.1=d.2.2.2.2.2.2.1∧c.2.2.2.2.2.2.2=d.2.2.2.2.2.2.2
  case neg=>rw[hno a5 (fun e=>(hsplit.1 e).2.2.2.2.1),Ò (by simp only[ł,gw,Bool.and_eq_false_iff,decide_eq_false_iff_not]; exact Decidable.not_and_iff_or_not.1 a5)]
  rw[Ö (by simp[ł,a5.1,a5.2]),æ,æ,æ,æ]
  have rest:∀X Y:Option ρ,(c.2.2.1=d.2.2.1)→(if decide (c=d)=true then k0 (i:Int) else kn ((i:Int)+1))=(if c.2.2.2.1=d.2.2.2.1 then k0 (i:Int) else kn ((i:Int)+1)):=by
   intro _ _ h
   by_cases g:c.2.2.2.1=d.2.2.2.1
   ·rw[if_pos (decide_eq_true (hsplit.2 ⟨a1,a2,a3,a4,a5,h,g⟩)),if_pos g]
   ·rw[if_neg g]; exact hno g (fun e=>(hsplit.1 e).2.2.2.2.2.2)
  by_cases l1:c.2.2.1.length=d.2.2.1.length
  case neg =>
   rw[hno l1 (fun e=>by rw[e]),Ö (bne_iff_ne.2 (by omega))]
  rw[Ò (by rw[l1]; exact bne_self_eq_false' _)];have e3:=T8 (ρ:=ρ) l1 (by omega);rw[æ] at e3;rw[e3]
  by_cases g1:c.2.2.1=d.2.2.1
  case neg=>rw[if_neg g1,î,hno g1 (fun e=>(hsplit.1 e).2.2.2.2.2.1)]
  rw[if_pos g1,rest none none g1]
  by_cases l2:c.2.2.2.1.length=d.2.2.2.1.length
  case neg =>
   rw[Ö (bne_iff_ne.2 (by omega)),if_neg (fun e=>l2 (by rw[e]))]
  rw[Ò (by rw[l2]; exact bne_self_eq_false' _),amW];have e4:=T8 (ρ:=ρ) l2 (by omega);rw[æ] at e4;rw[e4,î]
 ·try dsimp only
  unfold oZ;rw[à]
def amV:@lQ ρ=@jR ρ:=rfl
def amU:@Ē ρ=@Ĺ ρ:=rfl
def anK {x y:List é} (hx:x.length≤1000) (hy:y.length≤1000) (X Y KF:Option ρ):Ñ (fun(v225:Int) kk227=>oY x (Ý x) y v225 (fun u226=>kk227 u226) (fun z=>ifb (!(ige z 0)) X KF) (fun _=>Y)) (0:Int)=if lv x y (fun _=>true) then Y else KF:=by
 refine Jt x y (fun _=>true) X Y KF (fun i a hi ha kn=>?_) (fun kn=>?_)
 ·try dsimp only
  unfold oY;rw[Ó hi,Ë ha,abI (by omega),À,Î hi (by omega),Ğ];simp
 ·try dsimp only
  unfold oY;rw[à]
def aj8 {x y:List (Int×Int)} (hx:x.length≤1000) (hy:y.length≤1000) (ids:List Int) (X Y KF:Option ρ):Ñ (fun(v225:Int) kk227=>jR x (Ý x) (Q0 ids) y v225 (fun u226=>kk227 u226) (fun z=>ifb (!(ige z 0)) X KF) (fun _=>Y)) (0:Int)=if lv x y (fun u=>ids.contains u.1) then Y else KF:=by
 refine Jt x y (fun u=>ids.contains u.1) X Y KF (fun i a hi ha kn=>?_) (fun kn=>?_)
 ·try dsimp only
  unfold jR;rw[Ó hi,Ë ha,yG,abH (by omega),À]
  by_cases h:ids.contains a.1=true
  ·rw[if_pos h,ĺ,Î hi (by omega),Ğ,h];simp
  ·rw[if_neg h,Î hi (by omega)];have h':=Bool.not_eq_true _▸h;rw[h'];simp
 ·try dsimp only
  unfold jR;rw[à]
def aj7 {x y:List KV} (hx:x.length≤1000) (hy:y.length≤1000) (ids:List Int) (X Y KF:Option ρ):Ñ (fun(v225:Int) kk227=>Ĺ x (Ý x) (Q0 ids) y v225 (fun u226=>kk227 u226) (fun z=>ifb (!(ige z 0)) X KF) (fun _=>Y)) (0:Int)=if lv x y (fun u=>ids.contains u.1) then Y else KF:=by
 refine Jt x y (fun u=>ids.contains u.1) X Y KF (fun i a hi ha kn=>?_) (fun kn=>?_)
 ·try dsimp only
  unfold Ĺ;rw[Ó hi,Ë ha,yG,XY (by omega),À]
  by_cases h:ids.contains a.1=true
  ·rw[if_pos h,ĺ,Î hi (by omega),Ğ,h];simp
  ·rw[if_neg h,Î hi (by omega)];have h':=Bool.not_eq_true _▸h;rw[h'];simp
 ·try dsimp only
  unfold Ĺ;rw[à]
def anJ {x y:List KV} (hx:x.length≤1000) (hy:y.length≤1000) (ids:List Int) (k:Bool→Option ρ):Ñ (fun(v225:Int) kk227=>Ĺ x (Ý x) (Q0 ids) y v225 (fun u226=>kk227 u226) (fun z=>k (!(ige z 0))) (fun _=>k true)) (0:Int)=k (lv x y (fun u=>ids.contains u.1)):=by
 have h:=aj7 (ρ:=ρ) hx hy ids (k true) (k true) (k false)
 have e:(fun z:Int=>ifb (!(ige z 0)) (k true) (k false))=fun z=>k (!(ige z 0)):=by
  funext z
  cases(!(ige z 0))<;>rfl
 rw[e] at h;rw[h]
 cases lv x y (fun u=>ids.contains u.1)<;>rfl
def anL {x y:List Cmp} (hx:x.length≤1000) (hp:∀c∈x,c.2.2.1.length≤1000∧c.2.2.2.1.length≤1000) (hy:y.length≤1000) (K:Option Bool):Ñ (fun(v228:Int) kk230=>o8 x (Ý x) y v228 (fun u229=>kk230 u229) (fun z44=>some z44) (fun _=>K)) (0:Int)=if (x.all fun c=>Vi c y)=true then K else some false:=by
 refine(į x (fun c=>!Vi c y) (fun _=>some false) (some false) K (fun _=>rfl) (fun i c hi hc kn=>?_) (fun kn=>?_)).trans ?_
 rotate_left
 ·try dsimp only
  unfold o8;rw[à]
 ·rw[List.all_eq_not_any_not]
  cases x.any fun c=>!Vi c y<;>rfl
 ·try dsimp only
  unfold o8;have h:=hp c (List.mem_of_getElem? hc);rw[Ó hi,Ë hc];refine(ahx hy c h.1 h.2 _ (kn ((i:Int)+1)) (some false) (fun j=>by rw[show ige (j:Int) 0=true from decide_eq_true (by omega),Î hi (by omega)]; rfl)).trans ?_
  cases Vi c y<;>rfl
end
def part_ok {s b:Ü} (hs:ŷ s) (hb:ŷ b):GO s b=some (akN s b):=by
 have g1:=hs.gauges; have g2:=hs.uses; have g3:=hs.loans; have g4:=hs.compares;have b1:=hb.gauges; have b2:=hb.uses; have b3:=hb.loans; have b4:=hb.compares;unfold GO V6 akN;rw[amV,amU];refine(ð s.2.1 (fun i=>Q0 (aiC (s.1,s.2.1.take i,s.2.2))) (some _) rfl (fun i g hi hg kn=>?_) (fun kn=>?_))
 ·try dsimp only
  unfold ue;rw[Ó hi,Ë hg,Î hi (by omega)];unfold aiC;dsimp only;rw[take_succ hg,List.map_append,List.map_singleton,wK]
 ·try dsimp only
  unfold ue;rw[à,List.take_length]
  try dsimp only
  rw[show aiC (s.1,s.2.1,s.2.2)=aiC s from rfl];refine(anL g4 hs.piles b4 _).trans ?_;rw[show(lv s.2.2.2.2.1 b.2.2.2.2.1 fun _=>true)=s.2.2.2.2.1.all fun c=>Vi c b.2.2.2.2.1 from rfl]
  by_cases hc:(s.2.2.2.2.1.all fun c=>Vi c b.2.2.2.2.1)=true
  case neg=>rw[if_neg hc,eE.2 hc]; rfl
  rw[if_pos hc,hc,dO]
  by_cases hf:s.1=b.1
  case neg =>
   have ef:(ł s.1.1 b.1.1&&(ł s.1.2 b.1.2&&true))=false:=by
    rw[gB] at hf;simp[ł];omega
   rw[ef,î,decide_eq_false hf];rfl
  have ef:(ł s.1.1 b.1.1&&(ł s.1.2 b.1.2&&true))=true:=by simp[ł,hf]
  rw[ef,ĺ,decide_eq_true hf,dO];refine(anK g1 b1 _ _ _).trans ?_;cases lv s.2.1 b.2.1 fun _=>true
  case false=>rfl
  rw[if_pos rfl,dO];refine(aj8 g2 b2 _ _ _ _).trans ?_;cases lv s.2.2.1 b.2.2.1 fun u=>(aiC s).contains u.1
  case false=>rfl
  rw[if_pos rfl,dO];refine(aj8 b2 g2 _ _ _ _).trans ?_;cases lv b.2.2.1 s.2.2.1 fun u=>(aiC s).contains u.1
  case false=>rfl
  rw[if_pos rfl,dO];refine(aj7 g3 b3 _ _ _ _).trans ?_;cases lv s.2.2.2.1 b.2.2.2.1 fun u=>(aiC s).contains u.1
  case false=>rfl
  rw[if_pos rfl,dO];exact anJ b3 g3 _ some
def wu (x:List Int) (y:List Int) (l:Lk):List Int:=if gv x l.2.1=ķ then y else y.set l.1.toNat (min (gv y l.1) (l.2.2+gv x l.2.1))
def aa6 (L:List Lk) (N:Nat) (x:List Int):List Int:=L.foldl (wu x) (List.replicate N ķ)
def exL (L:List Lk) (N:Nat) (to:Int):Nat→List Int
 |0=>(List.replicate N ķ).set to.toNat 0
 |k+1=>aa6 L N (exL L N to k)
def nD (L:List Lk) (N:Nat) (to:Int) (most:Nat):List (List Int):=(List.range (most+1)).map (exL L N to)
section
variable {L:List Lk} {N:Nat}
def Us (x y:List Int) (l:Lk):(wu x y l).length=y.length:=by unfold wu; split<;>simp
def Jf (x:List Int):∀(M:List Lk) (y:List Int),(M.foldl (wu x) y).length=y.length
 |[],y=>rfl
 |l::M,y=>by rw[fP,Jf x M,Us]
def agl (x:List Int):(aa6 L N x).length=N:=by unfold aa6; rw[Jf]; simp
def adl (to:Int) (k:Nat):(exL L N to k).length=N:=by
 cases k with
 |zero=>simp[exL]
 |succ k=>exact agl _
def Lim (B:Int) (x:List Int):Prop:=∀v:Int,gv x v≠ķ→-B≤gv x v∧gv x v≤B
def gv_out {x:List Int} {v:Int} (h:¬v.toNat<x.length):gv x v=0:=by
 unfold gv;rw[List.getElem?_eq_none (by omega)];rfl
def ais {B:Int} (hB:0≤B):Lim B (List.replicate N ķ):=by
 intro v hv
 by_cases h:v.toNat<N
 ·exfalso; apply hv;unfold gv;rw[List.getElem?_replicate,if_pos h];rfl
 ·rw[gv_out (by simpa using h)]; omega
def air {B:Int} {y:List Int} (hy:Lim B y) {u:Int} (hu:0≤u) (hl:u.toNat<y.length) {a:Int} (ha:a≠ķ→-B≤a∧a≤B):Lim B (y.set u.toNat a):=by
 intro v hv
 by_cases h:v.toNat=u.toNat
 ·have:gv (y.set u.toNat a) v=a:=by
   unfold gv;rw[h,List.getElem?_set_self hl];rfl
  rw[this] at hv ⊢;exact ha hv
 ·have:gv (y.set u.toNat a) v=gv y v:=by
   unfold gv;rw[List.getElem?_set_ne (fun e=>h e.symm)]
  rw[this] at hv ⊢;exact hy v hv
def ak1 (hS:ĩ L N) {B:Int} (hB:0≤B) (hB2:B≤1000000000000000000) {x y:List Int} (hx:Lim B x) (hy:Lim (B+4503599627370496) y) (hl:y.length=N) {l:Lk} (hm:l∈L):Lim (B+4503599627370496) (wu x y l):=by
 unfold wu
 split
 ·exact hy
 ·rename_i hf;have h1:=hS.inr l hm;have h2:=hS.most l hm;have h3:=hx _ hf;refine air hy h1.1.1 (by omega) fun ha=>?_
  by_cases h4:gv y l.1=ķ
  ·rw[h4] at ha ⊢
   have:min ķ (l.2.2+gv x l.2.1)=l.2.2+gv x l.2.1:=by unfold ķ; omega
   rw[this]; omega
  ·have:=hy _ h4;omega
def aeL (hS:ĩ L N) {B:Int} (hB:0≤B) (hB2:B≤1000000000000000000) {x:List Int} (hx:Lim B x):∀(M:List Lk),(∀l∈M,l∈L)→∀y:List Int,y.length=N→Lim (B+4503599627370496) y→Lim (B+4503599627370496) (M.foldl (wu x) y)
 |[],_,y,_,hy=>hy
 |l::M,hM,y,hl,hy=>by
  rw[fP];exact aeL hS hB hB2 hx M (fun m hm=>hM m (by simp[hm])) _ (by rw[Us,hl]) (ak1 hS hB hB2 hx hy hl (hM l (by simp)))
def ac8 (hS:ĩ L N) {to:Int} (ht:0≤to∧to<N):∀k:Nat,k≤200→Lim (k*4503599627370496) (exL L N to k)
 |0,_=>by
  unfold exL;exact air (ais (by omega)) ht.1 (by simp; omega) (fun _=>by omega)
 |k+1,hk=>by
  have:=aeL hS (B:=k*4503599627370496) (by omega) (by omega) (ac8 hS ht k (by omega)) L (fun _ h=>h) (List.replicate N ķ) (by simp) (ais (by omega));unfold exL aa6
  have e:(((k+1:Nat):Int)*4503599627370496)=(k:Int)*4503599627370496+4503599627370496:=by push_cast; omega
  rw[e];exact this
def aa3 {ρ:Type} (hN:N≤1000) (K:List Int→Option ρ) {f:Int×List Int→(Int×List Int→Option ρ)→Option ρ}
 (hf:∀(v:Int×List Int) kk,f v kk=zy (N:Int) v.1 v.2 (fun u34 u35=>kk (u34,u35)) K):Ñ f ((0:Int),List.replicate N (0:Int))=K (List.replicate N ķ):=by
 refine ð (List.replicate N (0:Int)) (fun i=>List.replicate i ķ++List.replicate (N-i) (0:Int)) _ (by simp) (fun i a hi ha kn=>?_) (fun kn=>?_)
 ·rw[hf];dsimp only;unfold zy;rw[List.length_replicate] at hi
  have hlen:(List.replicate i ķ++List.replicate (N-i) (0:Int)).length=N:=by simp; omega
  have e1:ilt (i:Int) (N:Int)=true:=decide_eq_true (by omega);rw[Ö e1,show č (List.replicate i ķ++List.replicate (N-i) (0:Int))=(N:Int) by unfold č; rw[hlen],ħ (by omega) (by omega),jL (by rw[hlen]; omega),Õ (by omega) (by omega)];congr 2;rw[Int.toNat_natCast];rw[List.set_append_right _ _ (by simp),List.length_replicate,Nat.sub_self];rw[show N-i=(N-(i+1))+1 by omega,List.replicate_succ,List.set_cons_zero,List.replicate_succ'];simp
 ·rw[hf];dsimp only;unfold zy;rw[List.length_replicate];have e1:ilt (N:Int) (N:Int)=false:=decide_eq_false (by omega);rw[Ò e1];simp
def okN (hN:N≤1000) {ρ:Type} (x:Option ρ):è ((ile (0:Int) (N:Int))&&(ç (Int.toNat (N:Int)))) x=x:=by
 rw[Ė];rw[di,Ô (by omega),gw];exact decide_eq_true (by omega)
def aiq {ρ:Type} (hS:ĩ L N) {B:Int} (hB:0≤B) (hB2:B≤1000000000000000000) {x:List Int} (hx:Lim B x) (hxl:x.length=N) (K:List Int→Option ρ) :
 Ñ (fun(v20:(Val (.pair tI (.slice tI)))) kk23=>FC x L (Ý L) v20.1 v20.2 (fun u21 u22=>kk23 (u21,u22)) K) ((0:Int),List.replicate N ķ)=K (aa6 L N x):=by
 have hl3:=hS.len;refine ð L (fun i=>(L.take i).foldl (wu x) (List.replicate N ķ)) _ rfl (fun i l hi hl kn=>?_) (fun kn=>?_)
 ·try dsimp only
  unfold FC;have hm:=List.mem_of_getElem? hl;have h1:=hS.inr l hm;have h2:=hS.most l hm;rw[Ó hi,Ë hl,nt h1.2.1 (by omega),take_succ hl,List.foldl_append,Î hi (by omega)]
  have hlen:((L.take i).foldl (wu x) (List.replicate N ķ)).length=N:=by rw[Jf]; simp
  generalize (L.take i).foldl (wu x) (List.replicate N ķ)=y at hlen ⊢
  by_cases hf:gv x l.2.1=ķ
  ·rw[Ò (by rw[hf]; rfl)];simp only[List.foldl_cons,List.foldl_nil];unfold wu;rw[if_pos hf]
  ·have h3:=hx _ hf;rw[Ö (bne_iff_ne.2 hf),show č y=(N:Int) by unfold č; rw[hlen],ħ h1.1.1 h1.1.2,jL (by omega),nt h1.2.1 (by omega),Õ (by omega) (by omega),ħ h1.1.1 h1.1.2,jL (by omega),Î hi (by omega)];simp only[List.foldl_cons,List.foldl_nil];unfold wu;rw[if_neg hf,yK]
 ·try dsimp only
  unfold FC;rw[à,List.take_length];rfl
def alo {ρ:Type}:@Ws ρ=@zy ρ:=rfl
def j8 (to:Int) (m:Nat):(nD L N to m).length=m+1:=by simp[nD]
def Je {to:Int} {m k:Nat} (hk:k≤m):(nD L N to m)[k]?=some (exL L N to k):=by
 unfold nD;rw[List.getElem?_map,List.getElem?_range (by omega)];rfl
def aln (hS:ĩ L N) {to:Int} (ht:0≤to∧to<N) {most:Nat} (hm:most≤100):yQ ((N:Int),L) to (most:Int)=some (nD L N to most):=by
 have hN:=hS.n60
 unfold yQ OZ
 dsimp only;rw[okN (by omega),Int.toNat_natCast];refine(aa3 (by omega) _ (fun v kk=>by rw[æ,List.length_replicate])).trans ?_;rw[show č (List.replicate N ķ)=(N:Int) by simp[č],ħ ht.1 ht.2,jL (by simp; omega)];refine ð (List.replicate most ()) (fun i=>nD L N to i) _ (by simp[nD,exL]) (fun i a hi ha kn=>?_) (fun kn=>?_)
 ·try dsimp only
  unfold Mr;rw[List.length_replicate] at hi;have e1:ilt (i:Int) (most:Int)=true:=decide_eq_true (by omega);rw[Ö e1,æ,j8]
  have e2:(((i+1:Nat):Int)-1)=(i:Int):=by omega
  rw[e2,Õ (by omega) (by omega),show č (nD L N to i)=((i+1:Nat):Int) by unfold č; rw[j8],ħ (by omega) (by omega),Int.toNat_natCast,nM (Je (Nat.le_refl i)),okN (by omega),Int.toNat_natCast];rw[alo];refine(aa3 (by omega) _ (fun v kk=>by rw[æ,List.length_replicate])).trans ?_;refine(aiq hS (B:=i*4503599627370496) (by omega) (by omega) (ac8 hS ht i (by omega)) (adl _ _) _).trans ?_;rw[Ė (Ô (by simp only[j8,List.length_singleton]; omega)),Õ (by omega) (by omega)];congr 2;unfold nD;rw[List.range_succ (n:=i+1),List.map_append];rfl
 ·try dsimp only
  unfold Mr;rw[List.length_replicate];have e1:ilt (most:Int) (most:Int)=false:=decide_eq_false (by omega);rw[Ò e1]
def Q4 (L:List Lk) (x:List Int) (good:Int→Bool) (u sum:Int):Option Nat:=L.findIdx? fun l=>l.1==u&&(decide (gv x l.2.1≠ķ)&&good (sum+l.2.2+gv x l.2.1))
def rD (L:List Lk) (rest:Nat→List Int) (good:Int→Bool):Nat→Int→Int→List Int→List Int
 |0,_,_,out=>out
 |k+1,u,sum,out=>match Q4 L (rest k) good u sum with
  |some i=>rD L rest good k (L[i]?.getD (0,0,0)).2.1 (sum+(L[i]?.getD (0,0,0)).2.2) (out++[(i:Int)])
  |none=>rD L rest good k u sum out
def folL {ρ:Type} (good:Int→Bool) (c0:Int) (c1:List (List Int)) (c2:List Lk) (c3:Int) (v0:Int) (v1:Int) (v2:Int) (v3:List Int) (kn:Int→Int→Int→List Int→Option ρ) (k0:Int×Int×List Int→Option ρ):Option ρ :=
 ifb (ilt v2 c3) (ü c2 v2 fun e7=>ifb (ieq e7.1 v0) (ck (c0-(1:Int)) fun n8=>ü c1 n8 fun e9=>ü e9 e7.2.1 fun e10=>ifb (ine e10 (1152921504606846976:Int)) (ck (v1+e7.2.2) fun n11=>ck (c0-(1:Int)) fun n12=>ü c1 n12 fun e13=>ü e13 e7.2.1 fun e14=>ck (n11+e14) fun n15=>ifb (good n15) (è (ç ((List.length v3)+(List.length ([v2])))) (ck (v1+e7.2.2) fun n16=>k0 (e7.2.1,n16,(v3++([v2]))))) (ck (v2+(1:Int)) fun n17=>kn v0 v1 n17 v3)) (ck (v2+(1:Int)) fun n18=>kn v0 v1 n18 v3)) (ck (v2+(1:Int)) fun n19=>kn v0 v1 n19 v3)) (k0 (v0,v1,v3))
def ane {ρ:Type} (hS:ĩ L N) (good:Int→Bool) {rest:List (List Int)} {k:Nat} {x:List Int} (hr:rest[k]?=some x) (hk:k≤100) (hx:Lim 1000000000000000000 x) (hxl:x.length=N) {u sum:Int} (hs : -1000000000000000000≤sum∧sum≤1000000000000000000) {out:List Int} (ho:out.length≤1000)
 (K:Int×Int×List Int→Option ρ):Ñ (fun(v:Int×Int×Int×List Int) kk=>folL good ((k+1:Nat):Int) rest L (Ý L) v.1 v.2.1 v.2.2.1 v.2.2.2 (fun a b c d=>kk (a,b,c,d)) K) (u,sum,(0:Int),out) =
  match Q4 L x good u sum with|some i=>K ((L[i]?.getD (0,0,0)).2.1,sum+(L[i]?.getD (0,0,0)).2.2,out++[(i:Int)])|none=>K (u,sum,out):=by
 have hl3:=hS.len;refine Ņ (fun v=>∃i:Nat,i≤L.length∧v=(u,sum,(i:Int),out)∧∀j l,j<i→L[j]?=some l→(l.1==u&&(decide (gv x l.2.1≠ķ)&&good (sum+l.2.2+gv x l.2.1)))=false) (fun v=>L.length-v.2.2.1.toNat) ?_ ⟨0,by omega,rfl,fun j l h=>by omega⟩;rintro v ⟨i,hi,rfl,hp⟩
 have e0:(((k+1:Nat):Int)-1)=(k:Int):=by omega
 rcases dv i L.length with h2|h2
 ·have hl:L[i]?=some L[i]:=cG h2;generalize L[i]=l at hl;have hm:=cO hl;have h1:=hS.inr l hm;have h4:=hS.most l hm
  have hstep:(l.1==u&&(decide (gv x l.2.1≠ķ)&&good (sum+l.2.2+gv x l.2.1)))=false→∃y,(∃i:Nat,i≤L.length∧y=(u,sum,(i:Int),out)∧∀j l,j<i→L[j]?=some l→(l.1==u&&(decide (gv x l.2.1≠ķ)&&good (sum+l.2.2+gv x l.2.1)))=false)∧(L.length-y.2.2.1.toNat<L.length-((u,sum,(i:Int),out):Int×Int×Int×List Int).2.2.1.toNat)∧y=(u,sum,(i:Int)+1,out):=fun hf =>
   ⟨_,⟨i+1,h2,by rw[show((i+1:Nat):Int)=(i:Int)+1 by push_cast; rfl],fun j m hj hm=>by
    rcases Nat.lt_succ_iff_lt_or_eq.1 hj with h|rfl
    ·exact hp j m h hm
    ·rw[hl] at hm; cases hm; exact hf⟩,by simp; omega,rfl⟩
  by_cases hf:(l.1==u&&(decide (gv x l.2.1≠ķ)&&good (sum+l.2.2+gv x l.2.1)))=true
  ·refine .inl fun kn=>?_
   have hfi:Q4 L x good u sum=some i:=by
    unfold Q4;rw[List.findIdx?_eq_some_iff_getElem];obtain⟨hh,rfl⟩:=List.getElem?_eq_some_iff.1 hl;exact⟨h2,hf,fun j hj=>by have:=hp j _ hj (List.getElem?_eq_getElem (by omega)); rw[this]; simp⟩
   rw[hfi];simp only[Bool.and_eq_true,beq_iff_eq,decide_eq_true_eq] at hf;have h5:=hx _ hf.2.1;dsimp only;unfold folL
   rw[Ó h2,Ë hl,Ö (by simp[hf.1]),e0,Õ (by omega) (by omega),Ë hr,nt h1.2.1 (by omega),Ö (bne_iff_ne.2 hf.2.1),Õ (by omega) (by omega),Õ (by omega) (by omega),Ë hr,nt h1.2.1 (by omega),Õ (by omega) (by omega),Ö hf.2.2,
    Ė (Ô (by simp; omega)),Õ (by omega) (by omega),hl]
   rfl
  ·have hf':=Bool.not_eq_true _▸hf;obtain⟨y,hy1,hy2,rfl⟩:=hstep hf';refine .inr ⟨_,hy1,hy2,fun kn=>?_⟩;dsimp only;unfold folL;rw[Ó h2,Ë hl,Î h2 (by omega)]
   by_cases g1:l.1=u
   ·rw[Ö (by simp[g1]),e0,Õ (by omega) (by omega),Ë hr,nt h1.2.1 (by omega)]
    by_cases g2:gv x l.2.1=ķ
    ·rw[Ò (by rw[g2]; rfl)]
    ·have h5:=hx _ g2
     have g3:good (sum+l.2.2+gv x l.2.1)=false:=by simpa[g1,g2] using hf'
     rw[Ö (bne_iff_ne.2 g2),Õ (by omega) (by omega),Õ (by omega) (by omega),Ë hr,nt h1.2.1 (by omega),Õ (by omega) (by omega),Ò g3]
   ·rw[Ò (by simpa using g1)]
 ·refine .inl fun kn=>?_
  obtain rfl:i=L.length:=by omega
  have hfi:Q4 L x good u sum=none:=by
   unfold Q4;rw[List.findIdx?_eq_none_iff];intro l hl;obtain⟨j,hj,rfl⟩:=List.mem_iff_getElem.1 hl;exact hp j _ hj (List.getElem?_eq_getElem hj)
  rw[hfi];dsimp only;unfold folL;rw[à]
def anc {ρ:Type} (good:Int→Bool) (c0:List (List Int)) (c6:List Lk) (v0:Int) (v1:Int) (v2:Int) (v3:List Int) (kn:Int→Int→Int→List Int→Option ρ) (k0:List Int→Option ρ):Option ρ :=
 ifb (igt v1 (0:Int)) (Ñ (fun(v22:Int×Int×Int×List Int) kk27=>folL good v1 c0 c6 (Ý c6) v22.1 v22.2.1 v22.2.2.1 v22.2.2.2 (fun u23 u24 u25 u26=>kk27 (u23,u24,u25,u26)) (fun z20=>ck (v1-(1:Int)) fun n21=>kn z20.1 n21 z20.2.1 z20.2.2)) (v0,v2,(0:Int),v3)) (k0 v3)
def alG {ρ:Type} (c0:List (List Int)) (c4:Int) (c6:List Lk):@qA ρ c0 c4 c6=anc (fun n=>ieq n c4) c0 c6:=rfl
def anb {ρ:Type} (hS:ĩ L N) (good:Int→Bool) {rest:List (List Int)} {R:Nat→List Int} {k0:Nat} (hk:k0≤100) (hr:∀k,k<k0→rest[k]?=some (R k)) (hx:∀k,k<k0→Lim 900000000000000000 (R k)∧(R k).length=N) (u:Int) (K:List Int→Option ρ) :
 Ñ (fun(v:Int×Int×Int×List Int) kk=>anc good rest L v.1 v.2.1 v.2.2.1 v.2.2.2 (fun a b c d=>kk (a,b,c,d)) K) (u,(k0:Int),(0:Int),[])=K (rD L R good k0 u 0 []):=by
 have key:=sT (f:=fun(v:Int×Int×Int×List Int) kk=>anc good rest L v.1 v.2.1 v.2.2.1 v.2.2.2 (fun a b c d=>kk (a,b,c,d)) K) (F:=fun v=>K (rD L R good v.2.1.toNat v.1 v.2.2.1 v.2.2.2))
  (fun v=>∃k:Nat,v.2.1=k∧k≤k0∧(-(((k0-k:Nat):Int)*4503599627370496)≤v.2.2.1∧v.2.2.1≤((k0-k:Nat):Int)*4503599627370496)∧v.2.2.2.length≤k0-k) (fun v=>v.2.1.toNat) (fun v hv kn hk=>?_) (x:=(u,(k0:Int),0,[])) ⟨k0,rfl,cH _,by simp,by simp⟩
 ·rw[key]; simp
 ·obtain⟨u,k',sum,out⟩:=v;obtain⟨k,e,h1,h2,h3⟩:=hv;dsimp only at e h2 h3 hk ⊢;subst e;rw[Int.toNat_natCast] at hk ⊢;unfold anc
  cases k with
  |zero =>
   rw[Ò (by rfl)];rfl
  |succ k =>
   rw[Ö (decide_eq_true (by omega))];have hh:=hx k (by omega)
   have hlim:Lim 1000000000000000000 (R k):=fun v hv=>by have:=hh.1 v hv; omega
   refine(ane hS good (hr k (by omega)) (by omega) hlim hh.2 (by omega) (by omega) _).trans ?_;unfold rD
   have e0:(((k+1:Nat):Int)-1)=(k:Int):=by omega
   cases hn:Q4 L (R k) good u sum with
   |none =>
    dsimp only;rw[e0,Õ (by omega) (by omega),hk _ ⟨k,rfl,by omega,by dsimp only; omega,by dsimp only; omega⟩ (by simp)];simp
   |some i =>
    have hi:i<L.length:=by
     unfold Q4 at hn;exact(List.findIdx?_eq_some_iff_getElem.1 hn).1
    have hl:L[i]?=some L[i]:=List.getElem?_eq_getElem hi;have h4:=hS.most L[i] (List.getElem_mem _);dsimp only;rw[hl];simp only[Option.getD_some];rw[e0,Õ (by omega) (by omega),hk _ ⟨k,rfl,by omega,by dsimp only; omega,by simp; omega⟩ (by simp)];simp
def QV (L:List Lk) (N:Nat) (u v:Int):List Int×Int :=
 if (gM L N u v).2≠0 then([],(gM L N u v).2) else
 match (nD L N v N).findIdx? (fun x=>gv x u==(gM L N u v).1) with
 |some k=>(rD L (exL L N v) (fun n=>ieq n (gM L N u v).1) k u 0 [],0)
 |none=>([],0)
def afy (hS:ĩ L N) {u v:Int} (hu:0≤u∧u<N) (hv:0≤v∧v<N):yT ((N:Int),L) u v=some (QV L N u v):=by
 have hN:=hS.n60;unfold yT Pf QV;rw[Hq hS hu hv,À]
 by_cases h:(gM L N u v).2=0
 ·rw[Ò (by rw[h]; rfl),if_neg (by simp[h]),aln hS hv (by omega),À];rw[alG]
  let k0:Int→Option (List Int×Int):=fun j=>Ñ (fun(v29:Int×Int×Int×List Int) kk34=>anc (fun n=>ieq n (gM L N u v).1) (nD L N v N) L v29.1 v29.2.1 v29.2.2.1 v29.2.2.2 (fun u30 u31 u32 u33=>kk34 (u30,u31,u32,u33)) (fun z28=>some ((z28,(0:Int)):List Int×Int))) (u,j,(0:Int),[])
  refine(gI (nD L N v N) (fun x=>gv x u==(gM L N u v).1) k0 (k0 (-1)) (fun i x hi hx kn=>?_) (fun kn=>?_)).trans ?_
  rotate_left
  ·try dsimp only
   unfold qB;rw[à]
  ·have hex:∀k,k<N+1→(nD L N v N)[k]?=some (exL L N v k):=fun k hk=>Je (by omega)
   have hlim:∀k,k<N+1→Lim 900000000000000000 (exL L N v k)∧(exL L N v k).length=N:=fun k hk=>⟨fun w hw=>by
    have:=ac8 hS hv k (by omega) w hw; omega,adl _ _⟩
   cases hf:(nD L N v N).findIdx? (fun x=>gv x u==(gM L N u v).1) with
   |none =>
    have:=sT (f:=fun(v29:Int×Int×Int×List Int) kk34=>anc (fun n=>ieq n (gM L N u v).1) (nD L N v N) L v29.1 v29.2.1 v29.2.2.1 v29.2.2.2 (fun u30 u31 u32 u33=>kk34 (u30,u31,u32,u33)) (fun z28=>some ((z28,(0:Int)):List Int×Int))) (F:=fun _=>some (([],0):List Int×Int)) (fun v=>v.2.1 = -1∧v.2.2.2=[]) (fun _=>0) (fun x hx kn hk=>by
     unfold anc;rw[hx.1,hx.2]
     rfl) (x:=(u,(-1:Int),(0:Int),[])) ⟨rfl,rfl⟩
    exact this
   |some k =>
    have hk:=(dG.1 hf).1;rw[j8] at hk;exact anb hS _ (R:=exL L N v) (by omega) (fun j hj=>hex j (by omega)) (fun j hj=>hlim j (by omega)) u (fun z=>some ((z,(0:Int)):List Int×Int))
  ·try dsimp only
   unfold qB
   have hxl:x.length=N:=by
    have hi':=hi;rw[j8] at hi';rw[Je (by omega)] at hx;cases hx;exact adl _ _
   rw[j8] at hi;rw[æ,j8,Ö (decide_eq_true (by omega)),Ë hx,nt hu.1 (by omega),Õ (by omega) (by omega),Ğ]
 ·rw[Ö (bne_iff_ne.2 h),if_pos h]
end
def ahp (f:Int→Int→Int) (z:Int) (l:List Int) (d:Int):Int:=match l with|[]=>z|x::_=>f x d
def G1 (f:Int→Int→Int) (z:Int) (c:Cmp):Int:=ahp f z (å c.2.2.1 c.2.2.2.1) c.2.1-ahp f z (å c.2.2.2.1 c.2.2.1) c.2.1
structure anN (b:Ü) (f:Int→Int→Int) (z:Int) (g:é):Prop where
 hi:f g.1 g.2.1≤z+(g.2.2.1+g.2.2.2.1.2)
 lo:z+(g.2.2.1+g.2.2.2.1.1)≤f g.1 g.2.1
 down:∀d e,g.2.1≤d→d≤e→f g.1 e≤f g.1 d
 loss:∀d e,g.2.1≤d→d≤e→f g.1 d≤f g.1 e+iw b g d e
structure abO (b:Ü) (f:Int→Int→Int) (z:Int):Prop where
 gauge:∀g∈b.2.1,anN b f z g
 cmp:∀c∈b.2.2.2.2.1,(Ι b c).1≤G1 f z c∧G1 f z c≤(Ι b c).2
def aa4 {b:Ü} (h:đ b) {p:Int→Int} (hg:∀g∈b.2.1,pG b p g):∃f:Int→Int→Int,(∀g∈b.2.1,anN b f (p 0) g)∧∀g∈b.2.1,∀d∈Þ b g,f g.1 d=p (ž b g.1 d):=by
 let f:Int→Int→Int:=fun id d=>match Ŧ b id with|some g=>fill b p g d|none=>0
 have hfv:∀g∈b.2.1,∀d,f g.1 d=fill b p g d:=fun g hgm d=>by
  show(match Ŧ b g.1 with|some g=>fill b p g d|none=>0)=_;rw[vd h.ids hgm]
 refine⟨f,fun g hgm=>?_,fun g hgm d hd=>by rw[hfv g hgm]; exact MA h hgm (hg g hgm) hd⟩;have gf:=hg g hgm
 have e0:f g.1 g.2.1=p (ž b g.1 g.2.1):=by rw[hfv g hgm]; exact MA h hgm gf (jI g)
 refine⟨by rw[e0]; exact gf.hi,by rw[e0]; exact gf.lo,fun d e h0 hde=>?_,fun d e h0 hde=>?_⟩
 ·rw[hfv g hgm,hfv g hgm];exact(GC h hgm gf h0 hde).1
 ·rw[hfv g hgm,hfv g hgm];exact(GC h hgm gf h0 hde).2
def Yl {b:Ü} {f:Int→Int→Int} {p:Int→Int} (hm:∀g∈b.2.1,∀d∈Þ b g,f g.1 d=p (ž b g.1 d)) {l:List Int} {day:Int} (hl:∀x∈l,∃g∈b.2.1,g.1=x∧day∈Þ b g):p (L7 b l day)=ahp f (p 0) l day:=by
 cases l with
 |nil=>rfl
 |cons x t =>
  obtain⟨g,q1,rfl,q3⟩:=hl x (by simp);exact(hm g q1 day q3).symm
def Qo {b:Ü} {f:Int→Int→Int} {p:Int→Int} (hm:∀g∈b.2.1,∀d∈Þ b g,f g.1 d=p (ž b g.1 d)) {c:Cmp}
 (hl:∀x,x∈å c.2.2.1 c.2.2.2.1∨x∈å c.2.2.2.1 c.2.2.1→∃g∈b.2.1,g.1=x∧c.2.1∈Þ b g):p (cx b c)-p (cy b c)=G1 f (p 0) c:=by
 unfold G1;rw[Jj,Ji,Yl hm (fun x hx=>hl x (.inl hx)),Yl hm (fun x hx=>hl x (.inr hx))]
def Th {b:Ü} (h:đ b) (f:Int→Int→Int) (z:Int) {l:List Int} {day:Int} (hl:∀x∈l,∃g∈b.2.1,g.1=x∧day∈Þ b g):Ti b f z (L7 b l day)=ahp f z l day:=by
 rw[Jr h f z hl];unfold ahp
 cases l<;>rfl
def M5 {b:Ü} (h:đ b) {f:Int→Int→Int} {z:Int} {c:Cmp} (hl:∀x,x∈å c.2.2.1 c.2.2.2.1∨x∈å c.2.2.2.1 c.2.2.1→∃g∈b.2.1,g.1=x∧c.2.1∈Þ b g):Ti b f z (cx b c)-Ti b f z (cy b c)=G1 f z c:=by
 unfold G1;rw[Jj,Ji,Th h f z (fun x hx=>hl x (.inl hx)),Th h f z (fun x hx=>hl x (.inr hx))]
def Tg {b:Ü} (h:đ b) {f:Int→Int→Int} {z:Int} {g:é} (hg:g∈b.2.1) (hh:anN b f z g):pG b (Ti b f z) g:=by
 have q:∀d∈Þ b g,Ti b f z (ž b g.1 d)=f g.1 d:=fun d hd=>DG h f z hg hd;have e0:=q g.2.1 (jI g);refine⟨?_,?_,fun d e hd he hde=>?_,fun d e hd he hde=>?_⟩
 ·rw[e0,oK]; exact hh.hi
 ·rw[e0,oK]; exact hh.lo
 ·rw[q d hd,q e he]; exact hh.down d e (h.day hg hd).1 hde
 ·rw[q d hd,q e he]; exact hh.loss d e (h.day hg hd).1 hde
section
variable {b:Ü} {c:Cmp}
def akJ (h:đ b) {p:Int→Int} (hp:Pot (ß b) p):∃f,abO b f (p 0)∧∀g∈b.2.1,∀d∈Þ b g,f g.1 d=p (ž b g.1 d):=by
 obtain⟨hg,hc⟩:=(UW h).1 hp;obtain⟨f,hf,hm⟩:=aa4 h hg;refine⟨f,⟨hf,fun c hcm=>?_⟩,hm⟩;have:=Qo hm (c:=c) (fun x hx=>oa h hcm hx);have:=hc c hcm;omega
def ald (h:đ b) {f:Int→Int→Int} {z:Int} (hh:abO b f z):Pot (ß b) (Ti b f z):=by
 refine(UW h).2 ⟨fun g hg=>Tg h hg (hh.gauge g hg),fun c hc=>?_⟩;have:=M5 (f:=f) (z:=z) h (c:=c) (fun x hx=>oa h hc hx);have:=hh.cmp c hc;omega
def ae6 (h:đ b) {d:Cmp} (hd:d∈b.2.2.2.2.1):∀x,x∈å d.2.2.1 d.2.2.2.1∨x∈å d.2.2.2.1 d.2.2.1→∃g∈(ë b c).2.1,g.1=x∧d.2.1∈Þ (ë b c) g:=by
 intro x hx;obtain⟨g,q1,q2,q3⟩:=oa h hd hx;exact⟨g,q1,q2,tr q3⟩
def aiE (h:đ b) (h':đ (ë b c)) {p:Int→Int} (hp:Pot (ø (ë b c)) p):∃f,abO b f (p 0)∧p (cx (ë b c) c)-p (cy (ë b c) c)=G1 f (p 0) c:=by
 obtain⟨hg,hc⟩:=(My h').1 hp;obtain⟨f,hf,hm⟩:=aa4 h' hg;refine⟨f,⟨fun g hgm=>?_,fun d hd=>?_⟩,Qo hm fun x hx=>oa h' zq hx⟩
 ·have:=hf g hgm;exact⟨this.hi,this.lo,this.down,this.loss⟩
 ·have:=Qo hm (c:=d) (ae6 h hd);have:=hc d hd;omega
def aiD (h:đ b) (h':đ (ë b c)) {f:Int→Int→Int} {z:Int} (hh:abO b f z):Pot (ø (ë b c)) (Ti (ë b c) f z)∧Ti (ë b c) f z (cx (ë b c) c)-Ti (ë b c) f z (cy (ë b c) c)=G1 f z c:=by
 refine⟨(My h').2 ⟨fun g hg=>Tg h' hg ?_,fun d hd=>?_⟩,M5 h' fun x hx=>oa h' zq hx⟩
 ·have:=hh.gauge g hg;exact⟨this.hi,this.lo,this.down,this.loss⟩
 ·have:=M5 (f:=f) (z:=z) h' (c:=d) (ae6 h hd);have:=hh.cmp d hd;omega
def Y7 (h:đ b):ġ (ß b) ((Ê b).length+1)=true↔∃f z,abO b f z:=by
 have:=h.sys.n60;rw[ĭ h.sys.links (by omega)];constructor
 ·rintro⟨p,hp⟩;obtain⟨f,hf,_⟩:=akJ h hp;exact⟨f,_,hf⟩
 ·rintro⟨f,z,hh⟩;exact⟨_,ald h hh⟩
def d_max (h:đ b) (h':đ (ë b c)) {f:Int→Int→Int} {z:Int} (hh:abO b f z):dLo b c≤G1 f z c∧G1 f z c≤dHi b c:=by
 have ho:ġ (ø (ë b c)) ((Ê (ë b c)).length+1)=true:=by rw[pl h h']; exact(Y7 h).2 ⟨f,z,hh⟩
 obtain⟨hp,hd⟩:=aiD h h' hh;have a1:=Qm (jd h') (jx h') ho (BZ h') (BX h') hp;have a2:=Qm (jd h') (jx h') ho (BX h') (BZ h') hp;unfold dLo dHi;omega
def d_all (h:đ b) (h':đ (ë b c)) (ho:ġ (ß b) ((Ê b).length+1)=true) {t:Int} (h1:dLo b c≤t) (h2:t≤dHi b c):∃f z,abO b f z∧G1 f z c=t:=by
 rw[←pl h h'] at ho;obtain⟨p,hp,hd⟩:=aiY (jd h') (jx h') ho (BZ h') (BX h') h1 h2;obtain⟨f,hf,he⟩:=aiE h h' hp;exact⟨f,_,hf,by rw[←he]; exact hd⟩
def ano (h:đ b) (h':đ (ë b c)) (ho:ġ (ß b) ((Ê b).length+1)=true):dLo b c≤dHi b c:=by
 rw[←pl h h'] at ho;exact G0 (jd h') (jx h') ho (BZ h') (BX h')
structure Pred (b:Ü) (c:Cmp) (s:Int×Int):Prop where
 good:đ b
 good2:đ (ë b (É c))
 order:ac7 b c≤Dj b c
 has:∃f z,abO b f z
 ends:s.1-ac7 b c≤s.2-Dj b c
 bd : -9007199254740992≤s.1-ac7 b c∧s.2-Dj b c≤9007199254740992
 all:∀f z,abO b f z→s.1-ac7 b c≤G1 f z c∧G1 f z c≤s.2-Dj b c
 each:∀t,s.1-ac7 b c≤t→t≤s.2-Dj b c→∃f z,abO b f z∧G1 f z c=t
def YA (hp:(ĵ b c).2=0):Pred b c (ĵ b c).1:=by
 obtain⟨h,h'⟩:=oo hp;rw[QR h h'] at hp ⊢
 by_cases ho:ġ (ß b) ((Ê b).length+1)=true
 ·rw[if_pos ho] at hp ⊢;obtain⟨h1,h2⟩:=abY hp;rw[h2];have e1:ac7 b (É c)=ac7 b c:=rfl;have e2:Dj b (É c)=Dj b c:=rfl;rw[e1,e2] at *
  have s1:dLo b (É c)+ac7 b c-ac7 b c=dLo b (É c):=by omega
  have s2:dHi b (É c)+Dj b c-Dj b c=dHi b (É c):=by omega
  refine⟨h,h',h1,(Y7 h).1 ho,?_,?_,fun f z hh=>?_,fun t t1 t2=>?_⟩
  ·simp only;rw[s1,s2];exact ano h h' ho
  ·simp only;rw[s1,s2];rw[←pl h h'] at ho;have a1:=ae5 (jd h') (jx h') ho (BZ h') (BX h');have a2:=ae5 (jd h') (jx h') ho (BX h') (BZ h');unfold dLo dHi;omega
  ·simp only;rw[s1,s2];exact d_max (c:=É c) h h' hh
  ·simp only at t1 t2;rw[s1] at t1;rw[s2] at t2;exact d_all (c:=É c) h h' ho t1 t2
 ·rw[if_neg ho] at hp;simp at hp
end
theorem UK {b:Ü} (h:đ b):(Ť b).length=(ß b).length:=by
 have g0:∀i,((b.2.1.take i).mapIdx (ò b)).flatten.length=((b.2.1.take i).flatMap (ô b)).length:=by
  intro i
  induction i with
  |zero=>simp
  |succ i ih =>
   rcases dv i b.2.1.length with hi|hi
   ·have hg:b.2.1[i]?=some b.2.1[i]:=List.getElem?_eq_getElem hi;rw[gY _ hg,take_succ hg,List.flatMap_append,List.flatten_append,List.length_append,List.length_append,ih];congr 1;unfold ò ô;simp only[List.flatMap_cons,List.flatMap_nil,List.append_nil,List.flatten_cons,List.flatten_nil,List.length_append];rw[Ů _ _ (fun _=>rfl),Ů _ _ (fun _=>rfl)];rfl
   ·rw[dP (by omega)] at ih ⊢;exact ih
 have c0:=UA (b:=b) b.2.2.2.2.1.length (Nat.le_refl _);have g1:=g0 b.2.1.length;rw[List.take_length] at c0 g1;unfold Ť ß;rw[List.length_append,List.length_append,g1,c0.1,c0.2]
theorem aaQ {b:Ü}:∀s∈(b.2.1.mapIdx (ò b)).flatten,(s.1=1∨s.1=2)∧0≤s.2∧s.2<b.2.1.length:=by
 intro s hs;obtain⟨l,hl,hm⟩:=List.mem_flatten.1 hs;obtain⟨i,hi,rfl⟩:=List.mem_iff_getElem.1 hl;rw[List.length_mapIdx] at hi;rw[List.getElem_mapIdx] at hm;unfold ò at hm;rcases List.mem_append.1 hm with h|h
 ·simp at h; subst h; exact⟨.inl rfl,by dsimp only; omega,by dsimp only; omega⟩
 ·obtain⟨_,_,h⟩:=List.mem_flatMap.1 h;simp at h; subst h; exact⟨.inr rfl,by dsimp only; omega,by dsimp only; omega⟩
theorem abd {l:List Cmp}:∀s∈(l.mapIdx fun i (_:Cmp)=>[((3:Int),(i:Int)),((3:Int),(i:Int))]).flatten,s.1=3∧0≤s.2∧s.2<l.length:=by
 intro s hs;obtain⟨m,hl,hm⟩:=List.mem_flatten.1 hs;obtain⟨i,hi,rfl⟩:=List.mem_iff_getElem.1 hl;rw[List.length_mapIdx] at hi;rw[List.getElem_mapIdx] at hm;simp at hm; subst hm;exact⟨rfl,by dsimp only; omega,by dsimp only; omega⟩
theorem akV (b:Ü) (c:Cmp):∃S:List (Int×Int),Ť (ë b c)=S++[(3,(b.2.2.2.2.1.length:Int)),(3,(b.2.2.2.2.1.length:Int))]∧∀s∈S,¬(s.1=3∧s.2=(b.2.2.2.2.1.length:Int)):=by
 refine⟨((ë b c).2.1.mapIdx (ò (ë b c))).flatten++(b.2.2.2.2.1.mapIdx fun i (_:Cmp)=>[((3:Int),(i:Int)),((3:Int),(i:Int))]).flatten,?_,fun s hs=>?_⟩
 ·unfold Ť;rw[show(ë b c).2.2.2.2.1=b.2.2.2.2.1++[c] from rfl,List.mapIdx_append,List.flatten_append,List.append_assoc];simp
 ·rcases cN.1 hs with h|h
  ·have:=aaQ s h; omega
  ·have:=abd s h; omega
theorem T9 (b:Ü) (c:Cmp) (h:đ (ë b c)):ß (ë b c)=ø (ë b c)++[(cy (ë b c) c,cx (ë b c) c,(Ι (ë b c) c).2),(cx (ë b c) c,cy (ë b c) c,-(Ι (ë b c) c).1)]:=by
 rw[adf];unfold ß;rw[show(ë b c).2.2.2.2.1=b.2.2.2.2.1++[c] from rfl,List.flatMap_append,List.append_assoc];simp[Ā]
def aml (b:Ü) (c:Cmp) (s t:Int):Int:=dst (ø (ë b c)) ((Ê (ë b c)).length+1) s t
abbrev End:Type:=Int×Int×Int
abbrev Ju:Type:=(Int×Int)×End×End
def endP (b:Ü) (c:Cmp) (s t:Int):End :=
 (aml b c s t,aml b c s (cy (ë b c) c)+(Ι b c).2+aml b c (cx (ë b c) c) t,aml b c s (cx (ë b c) c)-(Ι b c).1+aml b c (cy (ë b c) c) t)
def worth0:Ju:=((0,0),(0,0,0),(0,0,0))
def X3 (b:Ü) (n:Int×Int) (c:Cmp):Ju :=
 ((ĵ b c).1,endP b (É c) 0 (pI (ë b (É c)) n.1 n.2),endP b (É c) (pI (ë b (É c)) n.1 n.2) 0)
def Xg (b:Ü) (n:Int×Int) (c:Cmp):Ju×Int:=if (ĵ b c).2≠0 then(worth0,(ĵ b c).2) else(X3 b n c,0)
theorem JH {b:Ü} {c:Cmp} (h:(ĵ b c).2=0):ġ (ß b) ((Ê b).length+1)=true:=by
 obtain⟨g1,g2⟩:=oo h;rw[QR g1 g2] at h
 by_cases ho:ġ (ß b) ((Ê b).length+1)=true
 ·exact ho
 ·rw[if_neg ho] at h; cases h
section
variable {b:Ü} {c:Cmp} (h:đ b) (h':đ (ë b c)) (ho:ġ (ß b) ((Ê b).length+1)=true)
include h h' ho
theorem rC {s t:Int} (hs:0≤s∧s<((Ê (ë b c)).length+1:Nat)) (ht:0≤t∧t<((Ê (ë b c)).length+1:Nat)) : -9007199254740992≤aml b c s t∧aml b c s t≤9007199254740992 :=
 ae5 (jd h') (jx h') (by rw[pl h h']; exact ho) hs ht
theorem sX (B:Ü) {s t:Int} (hs:0≤s∧s<((Ê (ë b c)).length+1:Nat)) (ht:0≤t∧t<((Ê (ë b c)).length+1:Nat)):Ć (B,(((Ê (ë b c)).length:Int)+1,ø (ë b c))) t s=some (aml b c s t):=by
 rw[show(((Ê (ë b c)).length:Int)+1)=(((Ê (ë b c)).length+1:Nat):Int) by push_cast; rfl,abt (jd h') ht hs,tz (jd h') (jx h') hs ht,if_pos (by rw[pl h h']; exact ho)];rfl
theorem ahu:(-4503599627370496≤(Ι b c).1∧(Ι b c).1≤4503599627370496)∧(-4503599627370496≤(Ι b c).2∧(Ι b c).2≤4503599627370496):=by
 have hs:=h'.sys;have e:=T9 b c h';have m1:=hs.most (cy (ë b c) c,cx (ë b c) c,(Ι (ë b c) c).2) (by rw[e]; simp);have m2:=hs.most (cx (ë b c) c,cy (ë b c) c,-(Ι (ë b c) c).1) (by rw[e]; simp);have e2:Ι (ë b c) c=Ι b c:=rfl;rw[e2] at m1 m2;dsimp only at m1 m2;omega
theorem ae1 (B:Ü) {s t:Int} (hs:0≤s∧s<((Ê (ë b c)).length+1:Nat)) (ht:0≤t∧t<((Ê (ë b c)).length+1:Nat)) :
 mW t s (B,(((Ê (ë b c)).length:Int)+1,ø (ë b c))) (cy (ë b c) c) (Ι b c) (cx (ë b c) c)=some (endP b c s t):=by
 have hx:=BZ h';have hy:=BX h';have b1:=rC h h' ho hs ht;have b2:=rC h h' ho hs hy;have b3:=rC h h' ho hx ht;have b4:=rC h h' ho hs hx;have b5:=rC h h' ho hy ht;have b6:=ahu h h' ho;unfold mW xR;rw[sX h h' ho B hs ht,À,sX h h' ho B hs hy,À,Õ (by omega) (by omega),sX h h' ho B hx ht,À,Õ (by omega) (by omega),sX h h' ho B hs hx,À,Õ (by omega) (by omega),sX h h' ho B hy ht,À,Õ (by omega) (by omega)];rfl
end
theorem YC {B:Ü} (h:đ B) (hn:∀g∈B.2.1,I64 g.2.2.2.2.1.1) (s:Sys) (l:List Int) (c:Cmp):mX l (B,s) c=some (atP (Ê B) l c.2.1):=by
 unfold mX xS
 cases l with
 |nil=>rw[æ]; rfl
 |cons x t =>
  rw[æ,Ò (beq_eq_false_iff_ne.2 (by simp; omega)),show(0:Int)=((0:Nat):Int) from rfl,Ë (show(x::t)[0]?=some x from rfl),KU h hn,À];rfl
theorem aiK {ρ:Type} {b:Ü} {c:Cmp} (h:đ (ë b c)) (K:List Lk→Option ρ) :
 Ñ (fun(v17:Val Í) kk20=>kI (b.2.2.2.2.1.length:Int) (Ť (ë b c)) (ß (ë b c)) (Ý (ß (ë b c))) v17.1 v17.2 (fun u18 u19=>kk20 (u18,u19)) K) ((0:Int),[])=K (ø (ë b c)):=by
 have hl3:=h.sys.len;have hsl:=UK h;obtain⟨S,hS,hSk⟩:=akV b c;have hL:=T9 b c h
 have hSl:S.length=(ø (ë b c)).length:=by
  rw[hS,hL,cJ,cJ] at hsl;simpa using hsl
 generalize ø (ë b c)=H at hL hSl ⊢;rw[hS];generalize ß (ë b c)=L at hL hsl hl3 ⊢
 have hLl:L.length=H.length+2:=by rw[hL]; simp
 refine ð L (fun i=>(L.take i).take H.length) _ (by simp) (fun i l hi hl kn=>?_) (fun kn=>?_)
 ·try dsimp only
  unfold kI;rw[Ó hi,Ë hl];rcases Nat.lt_or_ge i H.length with h1|h1
  ·have hs:(S++[((3:Int),(b.2.2.2.2.1.length:Int)),(3,(b.2.2.2.2.1.length:Int))])[i]?=some S[i]:=by
    rw[gd (by omega),cG]
   have hk:=hSk S[i] (fc _)
   have e:((ł (S[i]).1 (3:Int))&&((ł (S[i]).2 (b.2.2.2.2.1.length:Int))&&true))=false:=by
    simp[ł]; omega
   have e1:(L.take i).take H.length=L.take i:=dP (by rw[cY]; omega);have e2:(L.take (i+1)).take H.length=L.take (i+1):=dP (by rw[cY]; omega);rw[Ë hs,e,Ö (by rfl),e1,e2,Ė (Ô (by rw[cY]; simp; omega)),Î hi (by omega),take_succ hl]
  ·have hs:(S++[((3:Int),(b.2.2.2.2.1.length:Int)),(3,(b.2.2.2.2.1.length:Int))])[i]?=some ((3:Int),(b.2.2.2.2.1.length:Int)):=by
    rw[f5 (by omega)]
    have:i-S.length=0∨i-S.length=1:=by omega
    rcases this with e|e<;>rw[e]<;>rfl
   have e:((ł (3:Int) (3:Int))&&((ł (b.2.2.2.2.1.length:Int) (b.2.2.2.2.1.length:Int))&&true))=true:=by simp[ł]
   have e1:(L.take i).take H.length=(L.take (i+1)).take H.length:=by
    rw[List.take_take,List.take_take];congr 1;omega
   rw[Ë hs];dsimp only;rw[e,Ò (by rfl),Î hi (by omega),e1]
 ·try dsimp only
  unfold kI;rw[à,List.take_length,hL];simp
theorem aaH {B:Ü} (hr:al3 B) (n:Int×Int) {c:Cmp} (hA:c.2.2.1.length≤1000) (hB:c.2.2.2.1.length≤1000):tf (B,JC B) n c=some (Xg B n c):=by
 unfold tf Ig Xg;have hs:=hr.good.size;rw[show(B,JC B).1=B from rfl,agX hs hr.num hA hB,À]
 by_cases hp:(ĵ B c).2=0
 ·obtain⟨g1,g2⟩:=oo hp;have ho:=JH hp
  have e1:zf B (É c)=(ë B (É c),0):=by
   unfold zf;rw[if_neg (by simp[(ê B).2 g1]),if_neg (by simp[(ê _).2 g2])]
  have hn2:∀g∈(ë B (É c)).2.1,I64 g.2.2.2.2.1.1:=hr.num;have hC:=g2.nC
  have hw:(((ë B (É c)).2.2.2.2.1.length:Int)-1)=(B.2.2.2.2.1.length:Int):=by simp[ë]
  have hSays:al1 (ë B (É c)) (B.2.2.2.2.1.length:Int)=(Ι B (É c),0):=by
   have e:rK (ë B (É c)) (B.2.2.2.2.1.length:Int)=(É c,0):=by
    unfold rK;rw[if_neg (by simp[(ê _).2 g2]),if_neg (by simp[ë]; omega)];simp[ë]
   unfold al1;rw[e,if_neg (by simp)];rfl
  have hCancel:QW c.2.2.1 c.2.2.2.1=(å c.2.2.1 c.2.2.2.1,å c.2.2.2.1 c.2.2.1,0):=by
   have hnu:=(Κ _).1 (g2.nums (zq (c:=É c)));have h6:la c.2.2.1=true∧la c.2.2.2.1=true:=⟨hnu.2.2.2.2.2.1,hnu.2.2.2.2.2.2⟩;unfold QW;rw[h6.1,h6.2];rfl
  rw[Ò (by rw[hp]; rfl),if_neg (by simp[hp]),show oh B (c.1,c.2.1,c.2.2.1,c.2.2.2.1,(0:Int),c.2.2.2.2.2)=oh B (É c) from rfl,ajQ hs hr.num (c:=É c) hA hB,À,e1];dsimp only;rw[Ò (by rfl),æ,hw,Õ (by omega) (by omega),anD (g2.inn hn2),À,hSays,abJ (by omega) (by omega),À,hCancel,pF (g2.inn hn2),À,iY g2];dsimp only;refine(aiK g2 _).trans ?_;have ex:cx (ë B (É c)) (É c)=atP (Ê (ë B (É c))) (å c.2.2.1 c.2.2.2.1) c.2.1:=rfl;have ey:cy (ë B (É c)) (É c)=atP (Ê (ë B (É c))) (å c.2.2.2.1 c.2.2.1) c.2.1:=rfl;rw[YC g2 hn2,À,YC g2 hn2,À,KU g2 hn2,À,←ex,←ey,ae1 g1 g2 ho _ (Ŏ _) (Ŗ _ n),À,ae1 g1 g2 ho _ (Ŗ _ n) (Ŏ _),À];rfl
 ·rw[Ö (bne_iff_ne.2 hp),if_pos hp];rfl
abbrev amc:Type:=Ü×(Int×Int)×Bool×Int×List Int
def ajb:amc:=(ln,(0,0),false,0,[])
def B7 (L:List Lk):Int→Int→List Int→Int×Int×Bool
 |u,s,[]=>(u,s,true)
 |u,s,i::t=>if (L[i.toNat]?.getD (0,0,0)).1=u then B7 L (L[i.toNat]?.getD (0,0,0)).2.1 (s+(L[i.toNat]?.getD (0,0,0)).2.2) t else(0,0,false)
def abv (L:List Lk) (i:Int):Bool:=decide (i<0)||decide ((L.length:Int)≤i)
def kL (L:List Lk) (l:List Int):Int:=if 80<l.length then 2 else if l.any (abv L) then 1 else 0
def Ÿ (L:List Lk) (u v:Int) (l:List Int):Int×Int :=
 if kL L l≠0 then(0,kL L l) else if (B7 L u 0 l).2.2=true∧(B7 L u 0 l).1=v then((B7 L u 0 l).2.1,0) else(0,8)
def amv (u:Int) (w:Int×Int×Bool):Int:=if w.2.2=true∧w.1=u∧w.2.1<0 then 0 else 8
def vH (L:List Lk) (l:List Int):Int :=
 if kL L l≠0 then kL L l else match l with
 |[]=>8
 |i::_=>amv (L[i.toNat]?.getD (0,0,0)).1 (B7 L (L[i.toNat]?.getD (0,0,0)).1 0 l)
section
variable {L:List Lk} {N:Nat}
def Uf (N:Int) (hL:L.length≤1000) (l:List Int):pz (N,L) l=some (kL L l):=by
 unfold pz CZ kL;dsimp only;rw[æ]
 by_cases h:80<l.length
 ·rw[Ö (decide_eq_true (by omega)),if_pos h]
 ·rw[Ò (decide_eq_false (by omega)),if_neg h,←æ l];refine(į l (abv L) (fun z=>ifb (ige z 0) (some 1) (some 0)) (some 1) (some 0) (fun j=>by rw[show ige (j:Int) 0=true from decide_eq_true (by omega)]; rfl) (fun i a hi ha kn=>?_) (fun kn=>?_)).trans ?_
  ·try dsimp only
   unfold mj abv;rw[Ó hi,Ë ha,Î hi (by omega),æ,Ğ,Ğ]
   by_cases h1:a<0
   ·simp[ilt,h1]
   ·by_cases h2:(L.length:Int)≤a
    ·simp[ilt,ige,h1,h2]
    ·simp[ilt,ige,h1,h2]
  ·try dsimp only
   unfold mj;rw[à]
  ·cases l.any (abv L)<;>rfl
def ade {l:List Int} (h:kL L l=0):l.length≤80∧∀i∈l,0≤i∧i.toNat<L.length:=by
 unfold kL at h
 split at h
 ·omega
 ·rename_i h1
  split at h
  ·omega
  ·rename_i h2;refine⟨by omega,fun i hi=>?_⟩;have:=ez.1 (eE.2 h2) i hi;simp[abv] at this;omega
def ahc (hS:ĩ L N) (u:Int) {l:List Int} (h:kL L l=0):GU ((N:Int),L) u l=some (B7 L u 0 l):=by
 obtain⟨hl,hi⟩:=ade h;unfold GU Wq;dsimp only
 have:=sT (f:=fun(v7:Int×Int×Int) kk11=>uA l (Ý l) L v7.1 v7.2.1 v7.2.2 (fun u8 u9 u10=>kk11 (u8,u9,u10)) (fun z5=>some (z5.1,z5.2.1,z5.2.2)) (fun z6=>some (z6.1,z6.2,true)))
  (F:=fun v=>some (B7 L v.1 v.2.1 (l.drop v.2.2.toNat))) (fun v=>∃i:Nat,v.2.2=i∧i≤l.length∧(-(i*4503599627370496)≤v.2.1∧v.2.1≤i*4503599627370496)) (fun v=>l.length-v.2.2.toNat) (fun v hv kn hk=>?_) (x:=(u,(0:Int),(0:Int))) ⟨0,rfl,by omega,by simp⟩
 ·exact this
 ·obtain⟨w,s,n⟩:=v;obtain⟨i,e,h1,h2⟩:=hv;dsimp only at e h2 hk ⊢;subst e;rw[Int.toNat_natCast] at hk ⊢;unfold uA;rcases Nat.lt_or_ge i l.length with h3|h3
  ·have ha:l[i]?=some l[i]:=List.getElem?_eq_getElem h3;have hd:l.drop i=l[i]::l.drop (i+1):=List.drop_eq_getElem_cons h3;rw[hd];have hx:=hi l[i] (List.getElem_mem _);generalize l[i]=a at ha hx;have hg:L[a.toNat]?=some L[a.toNat]:=List.getElem?_eq_getElem hx.2;have hm:=hS.most _ (List.mem_of_getElem? hg);generalize L[a.toNat]=x at hg hm;rw[Ó h3,Ë ha,jc hx.1 hg];unfold B7;rw[hg];simp only[Option.getD_some]
   by_cases hc:x.1=w
   ·rw[Ò (by rw[hc]; exact bne_self_eq_false' _),if_pos hc,Õ (by omega) (by omega),Î h3 (by omega),hk _ ⟨i+1,by push_cast; rfl,h3,by dsimp only; push_cast; omega⟩ (by simp; omega)];simp
   ·rw[Ö (bne_iff_ne.2 hc),if_neg hc]
  ·obtain rfl:i=l.length:=by omega
   rw[à,List.drop_length];rfl
def ahd (hS:ĩ L N):∀(l:List Int) (u s B:Int),-B≤s∧s≤B→-(B+l.length*4503599627370496)≤(B7 L u s l).2.1∧(B7 L u s l).2.1≤B+l.length*4503599627370496
 |[],u,s,B,h=>by simp[B7]; omega
 |i::t,u,s,B,h=>by
  unfold B7
  have hm : -4503599627370496≤(L[i.toNat]?.getD (0,0,0)).2.2∧(L[i.toNat]?.getD (0,0,0)).2.2≤4503599627370496:=by
   cases hg:L[i.toNat]? with
   |none=>simp
   |some x=>exact hS.most x (cO hg)
  split
  ·have:=ahd hS t (L[i.toNat]?.getD (0,0,0)).2.1 (s+(L[i.toNat]?.getD (0,0,0)).2.2) (B+4503599627370496) (by omega);rw[cW];push_cast;omega
  ·dsimp only;omega
def Hp (hS:ĩ L N) {u v:Int} (hu:0≤u∧u<N) (hv:0≤v∧v<N) (l:List Int):jA ((N:Int),L) u v l=some (Ÿ L u v l):=by
 have hl3:=hS.len;unfold jA rr Ÿ
 have e1:(decide (0≤u)&&decide (u<(N:Int)))=true:=by simp[hu.1,hu.2]
 have e2:(decide (0≤v)&&decide (v<(N:Int)))=true:=by simp[hv.1,hv.2]
 rw[kZ hS,À,Ò (by rfl),Ns,À,e1,Ò (by rfl),Ns,À,e2,Ò (by rfl),Uf _ (by omega),À]
 by_cases h:kL L l=0
 ·rw[Ò (by rw[h]; rfl),if_neg (by simp[h]),ahc hS u h,À]
  cases h1:(B7 L u 0 l).2.2 with
  |false=>rw[Ö (by rfl),if_neg (by simp)]
  |true =>
   rw[Ò (by rfl)]
   by_cases h2:(B7 L u 0 l).1=v
   ·rw[Ò (by rw[h2]; exact bne_self_eq_false' _),if_pos ⟨rfl,h2⟩]
   ·rw[Ö (bne_iff_ne.2 h2),if_neg (fun h=>h2 h.2)]
 ·rw[Ö (bne_iff_ne.2 h),if_pos h]
def aiA {ρ α:Type} (x:α) (t:List α) (f:α→Option ρ):ü (x::t) (0:Int) f=f x:=rfl
def SZ (hS:ĩ L N) (l:List Int):mn ((N:Int),L) l=some (vH L l):=by
 have hl3:=hS.len;unfold mn rq vH;rw[kZ hS,À,Ò (by rfl),Uf _ (by omega),À]
 by_cases h:kL L l=0
 ·rw[Ò (by rw[h]; rfl),if_neg (by simp[h])]
  cases l with
  |nil=>rw[æ]; rfl
  |cons i t =>
   have hx:=(ade h).2 i (by simp);have hg:L[i.toNat]?=some L[i.toNat]:=List.getElem?_eq_getElem hx.2;generalize L[i.toNat]=x at hg;rw[æ,Ò (beq_eq_false_iff_ne.2 (by simp; omega)),aiA,jc hx.1 hg,ahc hS x.1 h,À];dsimp only;rw[hg];dsimp only[Option.getD_some];generalize B7 L x.1 0 (i::t)=w;obtain⟨e,sum,ok⟩:=w;unfold amv;dsimp only
   cases ok with
   |false=>rw[Ö (by rfl),if_neg (by simp)]
   |true =>
    rw[Ò (by rfl)]
    by_cases h2:e=x.1
    ·rw[Ò (by rw[h2]; exact bne_self_eq_false' _)]
     by_cases h3:sum<0
     ·rw[Ò (decide_eq_false (by omega)),if_pos ⟨rfl,h2,h3⟩]
     ·rw[Ö (decide_eq_true (by omega)),if_neg (fun h=>h3 h.2.2)]
    ·rw[Ö (bne_iff_ne.2 h2),if_neg (fun h=>h2 h.2.1)]
 ·rw[Ö (bne_iff_ne.2 h),if_pos h]
end
def oF (c:amc):Int :=
 if ä c.1≠0 then ä c.1 else if pI c.1 c.2.1.1 c.2.1.2=0 then 5 else
 if c.2.2.1 then(if Ÿ (ß c.1) 0 (pI c.1 c.2.1.1 c.2.1.2) c.2.2.2.2=(c.2.2.2.1,0) then 0 else 8)
 else(if Ÿ (ß c.1) (pI c.1 c.2.1.1 c.2.1.2) 0 c.2.2.2.2=(-c.2.2.2.1,0) then 0 else 8)
def pH (c:amc):Int :=
 if ä c.1≠0 then ä c.1 else if c.2.1≠(0,0)∨c.2.2.1=true∨c.2.2.2.1≠0 then 1 else if vH (ß c.1) c.2.2.2.2=0 then 0 else 8
def adQ (b:Ü) (c:amc):Bool×Int :=
 if ä b≠0 then(false,ä b) else
 if c.2.1=(0,0) then(if pH c≠0 then(false,pH c) else(akN c.1 b,0)) else(if oF c≠0 then(false,oF c) else(akN c.1 b,0))
def wr_neg {n:Int} (h:I64 n):amC (0-n)=if n = -9223372036854775808 then n else -n:=by
 have e:amC (0-n)=if (0-n) % 18446744073709551616≥9223372036854775808 then(0-n) % 18446744073709551616-18446744073709551616 else(0-n) % 18446744073709551616:=by
  simp[amC,IntKind.wrap,IntKind.bits,IntKind.signed]
 rw[e];unfold I64 at h
 split<;>split<;>omega
def KW {c:amc} (hI:In c.1) (hv:I64 c.2.2.2.1):kT c=some (oF c):=by
 unfold kT ut oF;rw[iH hI.size hI.num,À]
 by_cases hc:ä c.1=0
 ·have hg:=(ê c.1).1 hc;rw[Ò (by simp[ine,hc]),if_neg (show ¬(ä c.1≠0) from fun h=>h hc),QU hI,À,Du hg,pF hI,À,iY hg];dsimp only
  by_cases h0:pI c.1 c.2.1.1 c.2.1.2=0
  ·rw[if_pos h0,if_pos h0]; rfl
  ·have hN:=hg.sys;have hr:=Ŗ c.1 c.2.1;have hz:=Ŏ c.1;rw[if_neg h0,if_neg h0,Ò (by rfl),show(((Ê c.1).length:Int)+1)=(((Ê c.1).length+1:Nat):Int) by push_cast; rfl];dsimp only;rw[show(∀f:Int→Option Int,ck (0-c.2.2.2.1) f=f (amC (0-c.2.2.2.1))) from fun f=>rfl,wr_neg hv]
   have key:∀(u v:Int) (t t':Int),(t'=t∨(t' = -9223372036854775808∧t=9223372036854775808))→(ifb (ine (Ÿ (ß c.1) u v c.2.2.2.2).2 0) (some (8:Int)) (ifb (ine (Ÿ (ß c.1) u v c.2.2.2.2).1 t') (some 8) (some 0)))=some (if Ÿ (ß c.1) u v c.2.2.2.2=(t,0) then 0 else 8):=by
    intro u v t t' ht
    have hb : -9000000000000000000≤(Ÿ (ß c.1) u v c.2.2.2.2).1∧(Ÿ (ß c.1) u v c.2.2.2.2).1≤9000000000000000000:=by
     unfold Ÿ
     split
     ·simp
     ·rename_i hi
      split
      ·have:=ahd hN c.2.2.2.2 u 0 0 (by simp);have:=(ade (by simpa using hi)).1;dsimp only;omega
      ·simp
    generalize Ÿ (ß c.1) u v c.2.2.2.2=p at hb ⊢
    by_cases h2:p.2=0
    ·rw[Ò (by rw[h2]; rfl)]
     by_cases h1:p.1=t'
     ·have:p=(t,0):=Prod.ext (by rcases ht with h|h<;>omega) h2
      rw[Ò (by rw[h1]; exact bne_self_eq_false' _),if_pos this]
     ·have:¬p=(t,0):=fun e=>by
       have e1:p.1=t:=by rw[e]
       rcases ht with h|h<;>omega
      rw[Ö (bne_iff_ne.2 h1),if_neg this]
    ·have:¬p=(t,0):=fun e=>h2 (by rw[e]);rw[Ö (bne_iff_ne.2 h2),if_neg this]
   unfold I64 at hv
   cases c.2.2.1 with
   |true =>
    rw[ĺ,Hp hN hz hr,À,key _ _ _ _ (.inl rfl)];rfl
   |false =>
    rw[î,Hp hN hr hz,À,key _ _ (-c.2.2.2.1) _ (by split<;>omega)]
    rfl
 ·rw[Ö (by simp[ine,hc]),if_pos hc]
def XZ {c:amc} (hI:In c.1):mm c=some (pH c):=by
 unfold mm ri pH;rw[iH hI.size hI.num,À]
 by_cases hc:ä c.1=0
 ·have hg:=(ê c.1).1 hc;rw[Ò (by simp[ine,hc]),if_neg (show ¬(ä c.1≠0) from fun h=>h hc)]
  by_cases h1:c.2.1=(0,0)
  ·have e1:(!((ł c.2.1.1 0)&&((ł c.2.1.2 0)&&true)))=false:=by rw[h1]; rfl
   rw[e1,î]
   cases h2:c.2.2.1 with
   |true=>rw[ĺ,if_pos (.inr (.inl rfl))]
   |false =>
    rw[î]
    by_cases h3:c.2.2.2.1=0
    ·rw[Ò (by rw[h3]; rfl),if_neg (by simp[h1,h3]),pF hI,À,iY hg,show(((Ê c.1).length:Int)+1)=(((Ê c.1).length+1:Nat):Int) by push_cast; rfl];dsimp only;rw[SZ hg.sys,À]
     by_cases h4:vH (ß c.1) c.2.2.2.2=0
     ·rw[Ò (by rw[h4]; rfl),if_pos h4]
     ·rw[Ö (bne_iff_ne.2 h4),if_neg h4]
    ·rw[Ö (bne_iff_ne.2 h3),if_pos (.inr (.inr h3))]
  ·have e1:(!((ł c.2.1.1 0)&&((ł c.2.1.2 0)&&true)))=true:=by
    rw[Prod.ext_iff] at h1;simp[ł];dsimp only at h1;omega
   rw[e1,ĺ,if_pos (.inl h1)]
 ·rw[Ö (by simp[ine,hc]),if_pos hc]
def ajR {b:Ü} {c:amc} (hb:In b) (hI:In c.1) (hv:I64 c.2.2.2.1):zR b c=some (adQ b c):=by
 unfold zR Il adQ;rw[iH hb.size hb.num,À]
 by_cases hc:ä b=0
 ·rw[Ò (by simp[ine,hc]),if_neg (show ¬(ä b≠0) from fun h=>h hc)]
  by_cases h1:c.2.1=(0,0)
  ·have e1:((ł c.2.1.1 0)&&((ł c.2.1.2 0)&&true))=true:=by rw[h1]; rfl
   rw[e1,ĺ,if_pos h1,XZ hI,À]
   by_cases h2:pH c=0
   ·rw[Ò (by rw[h2]; rfl),if_neg (by simp[h2]),part_ok hI.size hb.size,À]
   ·rw[Ö (bne_iff_ne.2 h2),if_pos h2]
  ·have e1:((ł c.2.1.1 0)&&((ł c.2.1.2 0)&&true))=false:=by
    rw[Prod.ext_iff] at h1;simp[ł];dsimp only at h1;omega
   rw[e1,î,if_neg h1,KW hI hv,À]
   by_cases h2:oF c=0
   ·rw[Ò (by rw[h2]; rfl),if_neg (by simp[h2]),part_ok hI.size hb.size,À]
   ·rw[Ö (bne_iff_ne.2 h2),if_pos h2]
 ·rw[Ö (by simp[ine,hc]),if_pos hc]
def MR (b:Ü) (l:List Int):List (Int×Int):=l.map fun i=>(Ť b)[i.toNat]?.getD (0,0)
def afF {b:Ü} (hg:đ b) (hn:∀g∈b.2.1,I64 g.2.2.2.2.1.1) {l:List Int} (hl:l.length≤1000) (hi:∀i∈l,0≤i∧i.toNat<(ß b).length):pv b l=some (MR b l):=by
 unfold pv CN;rw[pF (hg.inn hn),À,iY hg];refine ð l (fun i=>MR b (l.take i)) _ rfl (fun i a hlt ha kn=>?_) (fun kn=>?_)
 ·try dsimp only
  unfold mh;have hx:=hi a (List.mem_of_getElem? ha);have hs:(Ť b)[a.toNat]?=some ((Ť b)[a.toNat]'(by rw[UK hg]; exact hx.2)):=List.getElem?_eq_getElem _;generalize (Ť b)[a.toNat]'(by rw[UK hg]; exact hx.2)=x at hs
  have hlen:(MR b (l.take i)).length≤1000:=by unfold MR; rw[List.length_map,List.length_take]; omega
  rw[Ó hlt,Ë ha,jc hx.1 hs,Ė (show ç ((MR b (l.take i)).length+[x].length)=true from Ô (show(MR b (l.take i)).length+1≤4294967296 by omega)),Î hlt (by omega),take_succ ha];unfold MR;rw[List.map_append,List.map_singleton,hs];rfl
 ·try dsimp only
  unfold mh;rw[à,List.take_length]
def src_ok {b:Ü}:∀s∈Ť b,anC b s:=by
 intro s hs;unfold Ť at hs;rcases List.mem_append.1 hs with h|h
 ·have:=aaQ s h; exact .inl this
 ·have:=abd s h; exact .inr this
def akw {b:Ü} (hg:đ b) {l:List Int} (hi:∀i∈l,0≤i∧i.toNat<(ß b).length):∀s∈MR b l,anC b s:=by
 intro s hs;obtain⟨i,h1,rfl⟩:=dQ.1 hs;have hx:=hi i h1;have hsx:(Ť b)[i.toNat]?=some ((Ť b)[i.toNat]'(by rw[UK hg]; exact hx.2)):=cG _;rw[hsx];exact src_ok _ (fc _)
section
variable {L:List Lk} {N:Nat}
def Ja (R:Nat→List Int) (good:Int→Bool):∀(k:Nat) (u sum:Int) (out:List Int),(∀i∈out,0≤i∧i.toNat<L.length)→(∀i∈rD L R good k u sum out,0≤i∧i.toNat<L.length)∧(rD L R good k u sum out).length≤out.length+k
 |0,u,sum,out,h=>⟨h,by simp[rD]⟩
 |k+1,u,sum,out,h=>by
  unfold rD
  cases hn:Q4 L (R k) good u sum with
  |none =>
   have:=Ja R good k u sum out h;exact⟨this.1,by have:=this.2; dsimp only; omega⟩
  |some i =>
   have hi:i<L.length:=by
    unfold Q4 at hn;exact(List.findIdx?_eq_some_iff_getElem.1 hn).1
   have:=Ja R good k (L[i]?.getD (0,0,0)).2.1 (sum+(L[i]?.getD (0,0,0)).2.2) (out++[(i:Int)]) (fun j hj=>by
    rcases cN.1 hj with h1|h1
    ·exact h j h1
    ·simp at h1; subst h1; simp; exact hi)
   exact⟨this.1,by have:=this.2; simp at this; dsimp only; omega⟩
def abg (N:Nat) (u v:Int):(∀i∈(QV L N u v).1,0≤i∧i.toNat<L.length)∧(QV L N u v).1.length≤N:=by
 unfold QV
 split
 ·simp
 ·cases h:(nD L N v N).findIdx? (fun x=>gv x u==(gM L N u v).1) with
  |none=>simp
  |some k =>
   have hk:=(List.findIdx?_eq_some_iff_getElem.1 h).1;rw[j8] at hk;have:=Ja (L:=L) (exL L N v) (fun n=>ieq n (gM L N u v).1) k u 0 [] (by simp);exact⟨this.1,by have:=this.2; simp at this; dsimp only; omega⟩
end
def KR (B:Ü) (n:Int×Int) (upper:Bool):List Int :=
 if upper then(QV (ß B) ((Ê B).length+1) 0 (pI B n.1 n.2)).1 else(QV (ß B) ((Ê B).length+1) (pI B n.1 n.2) 0).1
def wO (B:Ü) (n:Int×Int) (upper:Bool):Ü:=cutP B (MR B (KR B n upper)) [n]
def certR (B:Ü) (n:Int×Int) (upper:Bool):amc:=(wO B n upper,n,upper,(if upper then(ivR B n).2 else(ivR B n).1),KR (wO B n upper) n upper)
def oq (b:Ü) (n:Int×Int) (upper:Bool):amc×Int :=
 if (ā b [n]).2≠0 then(ajb,(ā b [n]).2) else
 if ä (wO (ā b [n]).1 n upper)≠0 then(ajb,ä (wO (ā b [n]).1 n upper)) else
 if ġ (ß (wO (ā b [n]).1 n upper)) ((Ê (wO (ā b [n]).1 n upper)).length+1) then(certR (ā b [n]).1 n upper,0) else(ajb,9)
def agz {ρ:Type}:@rk ρ=@Ă ρ:=rfl
def ahQ {ρ:Type} (K:Option ρ):Ñ (fun(v23:Int) kk25=>rj (0:Int) v23 (fun u24=>kk25 u24) (fun _=>K)) (0:Int)=K:=by
 refine Ņ (fun x=>x=0) (fun _=>0) (fun x hx=>.inl fun kn=>?_) rfl;rw[hx];rfl
def ad0 {B:Ü} (h:đ B) (hn:∀g∈B.2.1,I64 g.2.2.2.2.1.1) (n:Int×Int) (upper:Bool):kU (B,JC B) n upper=some (KR B n upper):=by
 unfold kU uw KR;rw[KU h hn,À,show(B,JC B).2=JC B from rfl,wI]
 cases upper with
 |true=>rw[ĺ,afy h.sys (Ŏ B) (Ŗ B n),À]; rfl
 |false=>rw[î,afy h.sys (Ŗ B n) (Ŏ B),À]; rfl
def agx {B:Ü} (h:đ B) (n:Int×Int) (upper:Bool):(∀i∈KR B n upper,0≤i∧i.toNat<(ß B).length)∧(KR B n upper).length≤60:=by
 have hN:=h.sys.n60;unfold KR
 split
 ·have:=abg (L:=ß B) ((Ê B).length+1) 0 (pI B n.1 n.2);exact⟨this.1,by have:=this.2; omega⟩
 ·have:=abg (L:=ß B) ((Ê B).length+1) (pI B n.1 n.2) 0;exact⟨this.1,by have:=this.2; omega⟩
def PV (w:List Int):∀(l:List Cmp) (i:Nat),∀c∈Dh w i l,c∈l
 |[],i,c,h=>by simp[Dh] at h
 |a::l,i,c,h=>by
  simp only[Dh] at h
  split at h
  ·rcases cQ.1 h with h|h
   ·rw[h]; simp
   ·exact fY _ (PV w l (i+1) c h)
  ·exact fY _ (PV w l (i+1) c h)
def amq {b:Ü} (h:In b) (ss:List (Int×Int)) {looks:List (Int×Int)} (hl:looks.length≤1000):In (cutP b ss looks):=by
 obtain⟨hs,hn⟩:=h;have g1:=hs.gauges; have g2:=hs.uses; have g3:=hs.loans; have g4:=hs.compares;unfold cutP;refine⟨⟨?_,?_,?_,?_,hl,fun c hc=>hs.piles c (PV _ _ _ c hc)⟩,fun g hg=>hn g (List.mem_filter.1 hg).1⟩
 ·exact dt (dz _ _) g1
 ·exact dt (dz _ _) g2
 ·exact dt (dz _ _) g3
 ·exact dt (PW _ _ _) g4
def ag2 {b:Ü} (hI:In b) (n:Int×Int) (upper:Bool):vt b n upper=some (oq b n upper):=by
 unfold vt CX oq;rw[agz];refine(pP hI (ns:=[n]) (by simp) (fun e=>some (ajb,e)) (fun e he=>by rw[Ė (by simp[ine,he])]; rfl) (fun z he=>by rw[Ė (by simp[ine,he])]; rfl) (fun _ _ _=>rfl)).trans ?_
 split
 ·rfl
 ·rename_i e;have hr:=(ki hI (by simpa using e)).1;dsimp only;generalize (ā b [n]).1=B at hr ⊢;have hci:=agx hr.good n upper;have hpi:In (wO B n upper):=amq (hr.good.inn hr.num) _ (by simp)
  rw[vg,show((((Ê B).length:Int)+1,ß B):Sys)=JC B from rfl,ad0 hr.good hr.num,À,afF hr.good hr.num (by omega) hci.1,À,
   cut_ok hr.good.size (by unfold MR; rw[List.length_map]; omega) (by simp) (akw hr.good hci.1),À,show cutP B (MR B (KR B n upper)) [n]=wO B n upper from rfl,iH hpi.size hpi.num,À]
  by_cases hc:ä (wO B n upper)=0
  ·have hg:=(ê _).1 hc;rw[Ò (by simp[ine,hc]),if_neg (show ¬(ä (wO B n upper)≠0) from fun h=>h hc)];refine(ahQ _).trans ?_;rw[pF hpi,À,iY hg,Ò (by rfl)];dsimp only;rw[show((((Ê (wO B n upper)).length:Int)+1,ß (wO B n upper)):Sys)=JC (wO B n upper) from rfl,wI (wO B n upper),Ho hg.sys,À]
   cases ho:ġ (ß (wO B n upper)) ((Ê (wO B n upper)).length+1) with
   |false=>rw[if_neg (by simp)]; rfl
   |true =>
    rw[if_pos rfl,←wI (wO B n upper),Ò (by rfl),Ub hr,À,ad0 hg hpi.num,À]
    cases upper with
    |true=>rw[ĺ,GA hr,À]; rfl
    |false=>rfl
  ·rw[Ö (by simp[ine,hc]),if_pos hc,Ö (by simp[ine,hc])];rfl
def agu {L:List Lk} {N:Nat} (h:ĩ L N) (ho:ġ L N=true):yS ((N:Int),L)=some ([],5):=by
 have hN:=h.n60;unfold yS O9;rw[kZ h,À,Ò (by rfl),tC h.links h.n1 (by omega),À,if_pos ho];rfl
def ab3 {b:Ü} (hg:đ b) (hn:∀g∈b.2.1,I64 g.2.2.2.2.1.1) (ho:ġ (ß b) ((Ê b).length+1)=true):GS b=some (ajb,5):=by
 unfold GS OU;rw[pF (hg.inn hn),À,iY hg,Ò (by rfl),show((((Ê b).length:Int)+1,ß b),Ť b,(0:Int)).1=JC b from rfl,wI,agu hg.sys ho,À];rfl
def ai7 {k:Int×Int} (hk:0<k.2) (m n:Int):0<amt (D3 k m) (D3 k n)↔k.1*n<k.1*m:=by
 obtain⟨g,g0,_,g1,g2⟩:=zn (n:=k.1*m) hk;obtain⟨h,h0,_,h1,h2⟩:=zn (n:=k.1*n) hk
 have key:(D3 k n).1*(D3 k m).2<(D3 k m).1*(D3 k n).2↔k.1*n<k.1*m:=by
  have e1:(D3 k n).1*(D3 k m).2*((g:Int)*h)=k.1*n*k.2:=by
   show(ng (k.1*n) k.2).1*(ng (k.1*m) k.2).2*((g:Int)*h)=k.1*n*k.2
   calc _=((ng (k.1*n) k.2).1*h)*((ng (k.1*m) k.2).2*g):=by ac_rfl
    _=_:=by rw[←h1,←g2]
  have e2:(D3 k m).1*(D3 k n).2*((g:Int)*h)=k.1*m*k.2:=by
   show(ng (k.1*m) k.2).1*(ng (k.1*n) k.2).2*((g:Int)*h)=k.1*m*k.2
   calc _=((ng (k.1*m) k.2).1*g)*((ng (k.1*n) k.2).2*h):=by ac_rfl
    _=_:=by rw[←g1,←h2]
  have pg:0<(g:Int)*h:=Int.mul_pos (by omega) (by omega);constructor
  ·intro hl;have:=Int.mul_lt_mul_of_pos_right hl pg;rw[e1,e2] at this;exact Int.lt_of_mul_lt_mul_right this (by omega)
  ·intro hl;have:=Int.mul_lt_mul_of_pos_right hl hk;rw[←e1,←e2] at this;exact Int.lt_of_mul_lt_mul_right this (by omega)
 rw[←key];unfold amt
 by_cases he:D3 k m=D3 k n
 ·rw[if_pos he,he];omega
 ·rw[if_neg he]
  split
  ·omega
  ·split<;>omega
def afP {k:Int×Int} (hk:0<k.2) {heat:Int×Int} (hh:heat.1≤heat.2):U9 k heat=if k.1<0 then(D3 k heat.2,D3 k heat.1) else(D3 k heat.1,D3 k heat.2):=by
 unfold U9
 by_cases hn:k.1<0
 ·rw[if_pos hn]
  by_cases he:heat.1=heat.2
  ·rw[he]
   split<;>rfl
  ·rw[if_pos ((ai7 hk _ _).2 (Int.mul_lt_mul_of_neg_left (by omega) hn))]
 ·rw[if_neg hn,if_neg (fun h=>by
   have h1:=(ai7 hk _ _).1 h;have h2:=Int.mul_le_mul_of_nonneg_left hh (show 0≤k.1 by omega)
   omega)]
def gv_bd {x:List Int} {m:Int} (hm:0≤m) (h:∀a∈x,-m≤a∧a≤m) (v:Int) : -m≤gv x v∧gv x v≤m:=by
 unfold gv
 cases hv:x[v.toNat]? with
 |none=>simp only[gx]; omega
 |some a=>simp only[fe]; exact h a (cO hv)
section
variable {b:Ü} {c d:Cmp} {s:Int×Int}
def amR (h:Pred b c s) : -10000000000000000≤s.1∧s.1≤s.2∧s.2≤10000000000000000:=by
 have q:=h.good2.cmp (zq (c:=É c));obtain⟨_,_,b1,b2,b3⟩:=wJ (b:=b) h.good.film (c:=É c) ⟨q.nums,q.r1,q.r2⟩;have e1:ac7 b c=Jn (Ļ b (É c)).1+(jj b (É c)).1-(É c).2.2.2.2.2.1:=rfl;have e2:Dj b c=(Ļ b (É c)).2.1 / (Ļ b (É c)).2.2+(jj b (É c)).2+(É c).2.2.2.2.2.1:=rfl;have o:=h.order;have n:=h.ends;have bd:=h.bd;omega
end
def ζ (e:End):List Int:=[e.1-e.2.1,e.2.2-e.1,Int.tdiv (e.2.2-e.2.1) 2,Int.tdiv (e.2.2-e.2.1) 2-1,Int.tdiv (e.2.2-e.2.1) 2+1]
def rY (e:End) (n:Int):List Int:=[n-e.2.1,e.2.2-n]
def atE (e:End) (d:Int):Int:=min e.1 (min (e.2.1+d) (e.2.2-d))
def MT (w:Ju) (d:Int):Int×Int:=(-(atE w.2.2 d),atE w.2.1 d)
def agh (r:Int×Int) (n:Int):List Int:=[n-2,n-1,n,n+1,n+2].filter fun d=>decide (r.1<d)&&decide (d<r.2)
def Q5 (r:Int×Int) (l:List Int):List Int:=[r.1,r.2]++l.flatMap (agh r)
def adZ (w:Ju) (l:List Int):Int:=l.foldl (fun m d=>max m ((MT w d).2-(MT w d).1)) (-1)
def ahb (w:Ju):Int:=adZ w (Q5 w.1 (ζ w.2.1++ζ w.2.2))
def Sm (n:Int):Prop:=-100000000000000000≤n∧n≤100000000000000000
structure XX (e:End):Prop where
 s:Sm e.1
 u:Sm e.2.1
 d:Sm e.2.2
structure XS (w:Ju):Prop where
 lo:Sm w.1.1
 hi:Sm w.1.2
 high:XX w.2.1
 low:XX w.2.2
def Yd (n:Int) : -1≤n-2*Int.tdiv n 2∧n-2*Int.tdiv n 2≤1:=by
 have h1:=Int.tmod_add_mul_tdiv n 2;have h2:=Int.tmod_two_eq n;omega
def Md {e:End} (h:XX e):ii e=some (ζ e):=by
 obtain⟨⟨a1,a2⟩,⟨b1,b2⟩,c1,c2⟩:=h;have h2:=Yd (e.2.2-e.2.1);unfold ii uf;rw[Õ (by omega) (by omega),Õ (by omega) (by omega),Õ (by omega) (by omega),Õ (by omega) (by omega),Õ (by omega) (by omega),Õ (by omega) (by omega)];rfl
def Mp {e:End} (h:XX e) {n:Int} (hn : -1000000000000000000≤n∧n≤1000000000000000000):ij e n=some (rY e n):=by
 obtain⟨⟨a1,a2⟩,⟨b1,b2⟩,c1,c2⟩:=h;unfold ij ug;rw[Õ (by omega) (by omega),Õ (by omega) (by omega)];rfl
def amA {e:End} (h:XX e) {d:Int} (hd:Sm d):tg e d=some (atE e d):=by
 obtain⟨⟨a1,a2⟩,⟨b1,b2⟩,c1,c2⟩:=h;obtain⟨d1,d2⟩:=hd;unfold tg Ij;rw[Õ (by omega) (by omega),Õ (by omega) (by omega),yK,yK];unfold atE;congr 1;omega
def ajL {e:End} (h:XX e) {d:Int} (hd:Sm d) : -200000000000000000≤atE e d∧atE e d≤100000000000000000:=by
 obtain⟨⟨a1,a2⟩,⟨b1,b2⟩,c1,c2⟩:=h;obtain⟨d1,d2⟩:=hd;unfold atE;omega
def ahn {w:Ju} (h:XS w) {d:Int} (hd:Sm d):Ő w d=some (MT w d):=by
 unfold Ő qX;have b1:=ajL h.low hd;rw[amA h.low hd,À,Õ (by omega) (by omega),amA h.high hd,À];unfold MT;rw[Int.zero_sub]
def alh (r:Int×Int) (n:Int):(agh r n).length≤5:=dz _ _
def P8 (r:Int×Int):∀l:List Int,(l.flatMap (agh r)).length≤l.length*5
 |[]=>by simp
 |n::l=>by
  have h1:=alh r n;have h2:=P8 r l;rw[dN,cJ,cW];omega
def am2 {ρ:Type} (r:Int×Int) {n:Int} (hn : -4000000000000000000≤n∧n≤4000000000000000000) {out:List Int} (ho:out.length≤1000) (K:List Int→Option ρ) :
 Ñ (fun(v9:(Val (.pair tI (.slice tI)))) kk12=>ω n r.1 r.2 v9.1 v9.2 (fun u10 u11=>kk12 (u10,u11)) K) (n-2,out)=K (out++agh r n):=by
 let five:List Int:=[n-2,n-1,n,n+1,n+2]
 have hg:∀(i:Nat),i<5→five[i]?=some (n-2+i):=by
  intro i hi
  have:i=0∨i=1∨i=2∨i=3∨i=4:=by omega
  rcases this with rfl|rfl|rfl|rfl|rfl<;>simp only[five,eS,List.getElem?_cons_succ]<;>congr 1<;>omega
 refine Ņ (fun v=>∃i:Nat,i≤5∧v=(n-2+(i:Int),out++(five.take i).filter fun d=>decide (r.1<d)&&decide (d<r.2))) (fun v=>(n+3-v.1).toNat) ?_ ⟨0,by omega,by simp⟩;rintro v ⟨i,hi,rfl⟩;rcases dv i 5 with h5|h5
 ·refine .inr ⟨(n-2+((i+1:Nat):Int),out++(five.take (i+1)).filter fun d=>decide (r.1<d)&&decide (d<r.2)),⟨i+1,h5,rfl⟩,by dsimp only; omega,fun kn=>?_⟩;have hl:((five.take i).filter fun d=>decide (r.1<d)&&decide (d<r.2)).length≤5:=po _ five i;dsimp only;unfold ω;rw[Õ (by omega) (by omega),Ö (decide_eq_true (by omega)),take_succ (hg i h5),List.filter_append]
  have e0:n-2+(i:Int)+1=n-2+((i+1:Nat):Int):=by push_cast; omega
  by_cases h1:r.1<n-2+(i:Int)
  ·rw[Ö (show igt (n-2+(i:Int)) r.1=true from decide_eq_true h1)]
   by_cases h2:n-2+(i:Int)<r.2
   ·rw[Ö (show ilt (n-2+(i:Int)) r.2=true from decide_eq_true h2),Ė (Ô (by rw[cJ]; simp only[dl]; omega)),Õ (by omega) (by omega),e0];simp[h1,h2]
   ·rw[Ò (show ilt (n-2+(i:Int)) r.2=false from decide_eq_false h2),Õ (by omega) (by omega),e0];simp[h1,h2]
  ·rw[Ò (show igt (n-2+(i:Int)) r.1=false from decide_eq_false h1),Õ (by omega) (by omega),e0];simp[h1]
 ·refine .inl fun kn=>?_
  obtain rfl:i=5:=by omega
  dsimp only;unfold ω;rw[Õ (by omega) (by omega),Ò (decide_eq_false (by omega))];rfl
def ah2 (w:Ju) {l:List Int} (hl:l.length≤100) (hn:∀n∈l,-2000000000000000000≤n∧n≤2000000000000000000):jz w l=some (Q5 w.1 l):=by
 unfold jz qY;refine ð l (fun i=>[w.1.1,w.1.2]++(l.take i).flatMap (agh w.1)) _ rfl (fun i n hi ha kn=>?_) (fun kn=>?_)
 ·try dsimp only
  unfold ja;have hb:=hn n (List.mem_of_getElem? ha);have h5:=P8 w.1 (l.take i)
  have ht:(l.take i).length≤100:=by rw[cY]; omega
  rw[Ó hi,Ë ha,Õ (by omega) (by omega)];refine(am2 w.1 (by omega) (by rw[cJ]; simp only[cW,dj]; omega) _).trans ?_;rw[Î hi (by omega),take_succ ha,eG,dh];simp
 ·try dsimp only
  unfold ja;rw[à,List.take_length];rfl
def akU {r:Int×Int} {l:List Int} {d:Int}:d∈Q5 r l↔d=r.1∨d=r.2∨(r.1<d∧d<r.2∧∃n∈l,n-2≤d∧d≤n+2):=by
 unfold Q5 agh;simp only[List.mem_append,List.mem_cons,List.not_mem_nil,or_false,List.mem_flatMap,List.mem_filter,Bool.and_eq_true,decide_eq_true_eq];constructor
 ·rintro((h|h)|⟨n,hn,h,h1,h2⟩)
  ·exact .inl h
  ·exact .inr (.inl h)
  ·exact .inr (.inr ⟨h1,h2,n,hn,by omega,by omega⟩)
 ·rintro(h|h|⟨h1,h2,n,hn,h3,h4⟩)
  ·exact .inl (.inl h)
  ·exact .inl (.inr h)
  ·exact .inr ⟨n,hn,by omega,h1,h2⟩
def aeE (r:Int×Int) {l:List Int} (hl:l.length≤100):(Q5 r l).length≤600:=by
 have:=P8 r l;unfold Q5;rw[List.length_append];simp only[List.length_cons,List.length_nil];omega
def ah1 {w:Ju} (h:XS w) {l:List Int}:∀d∈Q5 w.1 l,Sm d:=by
 intro d hd;obtain⟨a1,a2⟩:=h.lo;obtain⟨b1,b2⟩:=h.hi;rcases akU.1 hd with h|h|⟨h1,h2,_⟩
 ·rw[h]; exact⟨a1,a2⟩
 ·rw[h]; exact⟨b1,b2⟩
 ·exact⟨by omega,by omega⟩
def Me {e:End} (h:XX e):∀n∈ζ e,-1000000000000000000≤n∧n≤1000000000000000000:=by
 obtain⟨⟨a1,a2⟩,⟨b1,b2⟩,c1,c2⟩:=h;have h2:=Yd (e.2.2-e.2.1);intro n hn;unfold ζ at hn;simp only[List.mem_cons,List.not_mem_nil,or_false] at hn;omega
def akj {w:Ju} (h:XS w):kR w=some (ahb w):=by
 unfold kR oT
 have hl:([ζ w.2.1,ζ w.2.2]:List (List Int)).flatten=ζ w.2.1++ζ w.2.2:=by simp
 have hll:(ζ w.2.1++ζ w.2.2).length=10:=rfl
 rw[Md h.high,À,Md h.low,À,oE (by simp) (by rw[hl,hll]; omega),À,hl,ah2 w (by rw[hll]; omega) (fun n hn=>by
  rcases cN.1 hn with hn|hn
  ·have:=Me h.high n hn; omega
  ·have:=Me h.low n hn; omega),À]
 have hnl:=aeE w.1 (l:=ζ w.2.1++ζ w.2.2) (by rw[hll]; omega);have hsm:=ah1 h (l:=ζ w.2.1++ζ w.2.2);unfold ahb;generalize Q5 w.1 (ζ w.2.1++ζ w.2.2)=l at hnl hsm ⊢;refine Ņ (fun v=>∃i:Nat,i≤l.length∧v=(adZ w (l.take i),(i:Int))) (fun v=>l.length-v.2.toNat) ?_ ⟨0,by omega,rfl⟩;rintro v ⟨i,hi,rfl⟩;rcases Nat.lt_or_ge i l.length with h2|h2
 ·have ha:l[i]?=some l[i]:=List.getElem?_eq_getElem h2;have hs:=hsm l[i] (List.getElem_mem _);generalize l[i]=d at ha hs;refine .inr ⟨(adZ w (l.take (i+1)),((i+1:Nat):Int)),⟨i+1,h2,rfl⟩,by dsimp only; omega,fun kn=>?_⟩;dsimp only;unfold iF;have b1:=ajL h.low hs;have b2:=ajL h.high hs;rw[Ó h2,Ë ha,show Ő ((w.1.1,w.1.2),(w.2.1.1,w.2.1.2.1,w.2.1.2.2),w.2.2.1,w.2.2.2.1,w.2.2.2.2) d=Ő w d from rfl,ahn h hs,À,Õ (by unfold MT; dsimp only; omega) (by unfold MT; dsimp only; omega),Î h2 (by omega),adc,take_succ ha];unfold adZ;rw[List.foldl_append];rfl
 ·refine .inl fun kn=>?_
  obtain rfl:i=l.length:=by omega
  dsimp only;unfold iF;rw[à,List.take_length]
def adY {b:Ü} {n:Int×Int} {c:Cmp} (hp:(ĵ b c).2=0):XS (X3 b n c):=by
 obtain⟨g1,g2⟩:=oo hp;have ho:=JH hp;have hb:=amR (YA hp);have hx:=BZ g2;have hy:=BX g2;have b6:=ahu g1 g2 ho
 have key:∀{s t:Int},0≤s∧s<((Ê (ë b (É c))).length+1:Nat)→0≤t∧t<((Ê (ë b (É c))).length+1:Nat)→XX (endP b (É c) s t):=by
  intro s t hs ht;have b1:=rC g1 g2 ho hs ht;have b2:=rC g1 g2 ho hs hy;have b3:=rC g1 g2 ho hx ht;have b4:=rC g1 g2 ho hs hx;have b5:=rC g1 g2 ho hy ht;unfold endP;exact⟨⟨by dsimp only; omega,by dsimp only; omega⟩,⟨by dsimp only; omega,by dsimp only; omega⟩,by dsimp only; omega,by dsimp only; omega⟩
 exact⟨⟨by show _≤(ĵ b c).1.1; omega,by show(ĵ b c).1.1≤_; omega⟩,⟨by show _≤(ĵ b c).1.2; omega,by show(ĵ b c).1.2≤_; omega⟩,key (Ŏ _) (Ŗ _ n),key (Ŗ _ n) (Ŏ _)⟩
def afq (b:Ü) (n:Int×Int) (c:Cmp):Int×Int :=
 if (ā b [n]).2≠0 then(0,(ā b [n]).2) else if (ĵ (ā b [n]).1 c).2≠0 then(0,(ĵ (ā b [n]).1 c).2) else(ahb (X3 (ā b [n]).1 n c),0)
def akk {ρ:Type}:@xV ρ=@Ă ρ:=rfl
def alZ {b:Ü} (hI:In b) (n:Int×Int) {c:Cmp} (hA:c.2.2.1.length≤1000) (hB:c.2.2.2.1.length≤1000):yP b n c=some (afq b n c):=by
 unfold yP OL afq;rw[akk];refine(pP hI (ns:=[n]) (by simp) (fun e=>some ((0:Int),e)) (fun e he=>by rw[Ė (by simp[ine,he])]) (fun z he=>by rw[Ė (by simp[ine,he])]) (fun _ _ _=>rfl)).trans ?_
 split
 ·rfl
 ·rename_i e;have hr:=(ki hI (by simpa using e)).1;dsimp only;rw[vg,show((((Ê (ā b [n]).1).length:Int)+1,ß (ā b [n]).1):Sys)=JC (ā b [n]).1 from rfl,aaH hr n hA hB,À];unfold Xg
  by_cases hp:(ĵ (ā b [n]).1 c).2=0
  ·rw[if_neg (by simp[hp]),if_neg (by simp[hp]),Ò (by rfl),akj (adY hp),À]
  ·rw[if_pos hp,if_pos hp,Ö (bne_iff_ne.2 hp)]
def ag5 (x:Int):Int:=max (-288230376151711744) (min x 288230376151711744)
def Cb (w:Ju) (l:Int×Int):List Int:=(ζ w.2.1++ζ w.2.2)++(rY w.2.1 l.1++rY w.2.2 (-l.1))++(rY w.2.1 l.2++rY w.2.2 (-l.2))
def aeg (w:Ju) (l:Int×Int):Bool:=(Q5 w.1 (Cb w l)).all fun d=>pK (MT w d) l != 3
def MI (b:Ü) (n l:Int×Int) (c:Cmp):Bool×Int :=
 if (ā b [n]).2≠0 then(false,(ā b [n]).2) else if l.2<l.1 then(false,1) else if (ĵ (ā b [n]).1 c).2≠0 then(false,(ĵ (ā b [n]).1 c).2) else(aeg (X3 (ā b [n]).1 n c) (ag5 l.1,ag5 l.2),0)
def afG {ρ:Type}:@rf ρ=@Ă ρ:=rfl
def amo (x:Int):kS x=some (ag5 x):=by
 unfold kS uk ag5;rw[yK,adc]
def Mq {e:End} (h:XX e) {n:Int} (hn : -300000000000000000≤n∧n≤300000000000000000):∀m∈rY e n,-1000000000000000000≤m∧m≤1000000000000000000:=by
 obtain⟨⟨a1,a2⟩,⟨b1,b2⟩,c1,c2⟩:=h;intro m hm;unfold rY at hm;simp only[List.mem_cons,List.not_mem_nil,or_false] at hm;omega
def agT {b:Ü} (hI:In b) (n l:Int×Int) {c:Cmp} (hA:c.2.2.1.length≤1000) (hB:c.2.2.2.1.length≤1000):pw b n l c=some (MI b n l c):=by
 unfold pw CU MI;rw[afG];refine(pP hI (ns:=[n]) (by simp) (fun e=>some (false,e)) (fun e he=>by rw[Ö (by simp[ine,he])]) (fun z he=>by rw[Ö (by simp[ine,he])]) (fun _ _ _=>rfl)).trans ?_
 split
 ·rfl
 ·rename_i e;have hr:=(ki hI (by simpa using e)).1;dsimp only
  by_cases hl:l.2<l.1
  ·rw[Ö (by simp[igt,hl]),if_pos hl]
  ·rw[Ò (by simp[igt]; omega),if_neg hl,vg,show((((Ê (ā b [n]).1).length:Int)+1,ß (ā b [n]).1):Sys)=JC (ā b [n]).1 from rfl,aaH hr n hA hB,À];unfold Xg
   by_cases hp:(ĵ (ā b [n]).1 c).2=0
   ·rw[if_neg (by simp[hp]),if_neg (by simp[hp]),Ò (by rfl)];have hw:=adY (n:=n) hp;dsimp only;generalize X3 (ā b [n]).1 n c=w at hw ⊢
    have f1 : -300000000000000000≤ag5 l.1∧ag5 l.1≤300000000000000000:=by unfold ag5; omega
    have f2 : -300000000000000000≤ag5 l.2∧ag5 l.2≤300000000000000000:=by unfold ag5; omega
    have q1:([ζ w.2.1,ζ w.2.2]:List (List Int)).flatten=ζ w.2.1++ζ w.2.2:=by simp
    have q2:∀x y z:List Int,([x,y,z]:List (List Int)).flatten=x++(y++z):=by intro x y z; simp
    rw[Md hw.high,À,Md hw.low,À,oE (by simp) (by rw[q1]; simp[ζ]),À,q1,amo,À,amo,À];generalize ag5 l.1=l1 at f1 ⊢;generalize ag5 l.2=l2 at f2 ⊢
    rw[Mp hw.high (by omega),À,Õ (by omega) (by omega),Int.zero_sub,Mp hw.low (by omega),À,oE (by simp) (by rw[q2]; simp[ζ,rY]),À,q2,
     Mp hw.high (by omega),À,Õ (by omega) (by omega),Int.zero_sub,Mp hw.low (by omega),À,oE (by simp) (by rw[q2]; simp[ζ,rY]),À,q2]
    have hll:(Cb w (l1,l2)).length=18:=rfl;have qs:ζ w.2.1++ζ w.2.2++(rY w.2.1 l1++rY w.2.2 (-l1))++(rY w.2.1 l2++rY w.2.2 (-l2))=Cb w (l1,l2):=rfl
    rw[qs,ah2 w (by rw[hll]; omega) (fun m hm=>by
     unfold Cb at hm;simp only[List.mem_append] at hm;rcases hm with((hm|hm)|(hm|hm))|(hm|hm)
     ·have:=Me hw.high m hm; omega
     ·have:=Me hw.low m hm; omega
     ·have:=Mq hw.high f1 m hm; omega
     ·have:=Mq hw.low (n:=-l1) (by omega) m hm; omega
     ·have:=Mq hw.high f2 m hm; omega
     ·have:=Mq hw.low (n:=-l2) (by omega) m hm; omega),À]
    have hnl:=aeE w.1 (l:=Cb w (l1,l2)) (by rw[hll]; omega);have hsm:=ah1 hw (l:=Cb w (l1,l2));unfold aeg;generalize Q5 w.1 (Cb w (l1,l2))=ds at hnl hsm ⊢;refine(į ds (fun d=>pK (MT w d) (l1,l2)==3) (fun z30=>some ((!(ige z30 (0:Int))),(0:Int))) (some (false,0)) (some (true,0)) (fun j=>by rw[show ige (j:Int) 0=true from decide_eq_true (by omega)]; rfl) (fun i d hi hd kn=>?_) (fun kn=>?_)).trans ?_
    ·try dsimp only
     unfold mi;rw[Ó hi,Ë hd,show Ő ((w.1.1,w.1.2),(w.2.1.1,w.2.1.2.1,w.2.1.2.2),w.2.2.1,w.2.2.2.1,w.2.2.2.2) d=Ő w d from rfl,ahn hw (hsm d (List.mem_of_getElem? hd)),À,S0,À,Î hi (by omega),Ğ]
    ·try dsimp only
     unfold mi;rw[à]
    ·rw[show(fun d=>pK (MT w d) (l1,l2) != 3)=(fun d=>!(pK (MT w d) (l1,l2)==3)) from rfl,←List.not_any_eq_all_not]
     cases ds.any fun d=>pK (MT w d) (l1,l2)==3<;>rfl
   ·rw[if_pos hp,if_pos hp,Ö (bne_iff_ne.2 hp)]
def QS (b:Ü) (n:Int×Int):Prop:=∃g∈b.2.1,g.1=n.1∧n.2∈Þ b g
theorem Mx {b:Ü} (h:đ b) {n:Int×Int}:pI b n.1 n.2≠0↔QS b n:=by
 unfold pI;constructor
 ·intro hne
  cases hx:gV (Ê b) n.1 n.2 with
  |none=>rw[hx] at hne; simp at hne
  |some j =>
   have hm:=List.mem_of_getElem? (jY hx).2;unfold Ê at hm;obtain⟨g,hg,hd⟩:=List.mem_flatMap.1 hm;obtain⟨d,hd,e⟩:=List.mem_map.1 hd;simp only[Prod.mk.injEq] at e;obtain⟨e1,rfl⟩:=e;exact⟨g,hg,e1,hd⟩
 ·rintro⟨g,hg,e,hd⟩;obtain⟨i,hi,rfl⟩:=List.mem_iff_getElem.1 hg;obtain⟨k,hk,e2⟩:=List.mem_iff_getElem.1 hd;rw[←e,Ve h (List.getElem?_eq_getElem hi) (by rw[List.getElem?_eq_getElem hk,e2])];dsimp only;omega
theorem ai1 (b:Ü) (n:Int×Int) (g:é) {d:Int} (hd:d∈Þ b g):d∈Þ (iR b n) g:=by
 unfold Þ at hd ⊢;rw[pN] at hd ⊢;unfold Xu iR at *;simp only[List.mem_append,List.mem_map,List.mem_filter] at hd ⊢;rcases hd with(h|h)|⟨m,⟨h1,h2⟩,h3⟩
 ·exact .inl (.inl h)
 ·exact .inl (.inr h)
 ·exact .inr ⟨m,⟨.inl h1,h2⟩,h3⟩
theorem aih {b:Ü} (n:Int×Int) (h':đ (iR b n)):QS (iR b n) n:=by
 have hu:=h'.looks n (by simp[iR]);unfold afB at hu
 split at hu
 ·omega
 obtain⟨g,hg,_⟩:=HK h' hu;obtain⟨hm,e⟩:=mV hg;refine⟨g,hm,e,?_⟩;unfold Þ;rw[pN];unfold Xu iR;simp only[List.mem_append,List.mem_map,List.mem_filter];exact .inr ⟨n,⟨.inr (by simp),by simp[e]⟩,rfl⟩
theorem MP {b:Ü} {n:Int×Int} (e:(jo b n).2=0):(jo b n=(b,0)∧pI b n.1 n.2≠0)∨(jo b n=(iR b n,0)∧đ (iR b n)∧pI b n.1 n.2=0):=by
 unfold jo at e ⊢
 split
 ·rename_i h; exact .inl ⟨rfl,h⟩
 ·rename_i h1;rw[if_neg h1] at e
  split
  ·rename_i h2; rw[if_pos h2] at e; exact absurd e h2
  ·rename_i h2; exact .inr ⟨rfl,(ê _).1 (by simpa using h2),by simpa using h1⟩
theorem Ys:∀{ns:List (Int×Int)} {b:Ü},(ň b ns).2=0→∀n,QS b n→QS (ň b ns).1 n
 |[],b,_,n,hn=>hn
 |m::t,b,e,n,hn=>by
  unfold ň at e ⊢
  split
  ·rename_i h1; rw[if_pos h1] at e; exact absurd e h1
  ·rename_i h1;rw[if_neg h1] at e;refine Ys e n ?_;rcases MP (by simpa using h1) with⟨h,_⟩|⟨h,_,_⟩
   ·rw[h]; exact hn
   ·rw[h];obtain⟨g,hg,e1,hd⟩:=hn;exact⟨g,hg,e1,ai1 b m g hd⟩
theorem Yr:∀{ns:List (Int×Int)} {b:Ü},đ b→(ň b ns).2=0→∀n∈ns,QS (ň b ns).1 n
 |[],b,_,_,n,hn=>by simp at hn
 |m::t,b,hg,e,n,hn=>by
  unfold ň at e ⊢
  split
  ·rename_i h1; rw[if_pos h1] at e; exact absurd e h1
  ·rename_i h1;rw[if_neg h1] at e
   have h1':(jo b m).2=0:=by simpa using h1
   rcases cQ.1 hn with rfl|hn
   ·refine Ys e n ?_;rcases MP h1' with⟨h,h2⟩|⟨h,h2,_⟩
    ·rw[h]; exact(Mx hg).1 h2
    ·rw[h]; exact aih n h2
   ·exact Yr (Yf hg h1') e n hn
theorem aii {b:Ü} {n:Int×Int} {f:Int→Int→Int} {z:Int}:abO (iR b n) f z↔abO b f z :=
 ⟨fun h=>⟨fun g hg=>by have:=h.gauge g hg; exact⟨this.hi,this.lo,this.down,this.loss⟩,h.cmp⟩,fun h=>⟨fun g hg=>by have:=h.gauge g hg; exact⟨this.hi,this.lo,this.down,this.loss⟩,h.cmp⟩⟩
theorem Yt:∀{ns:List (Int×Int)} {b:Ü},(ň b ns).2=0→∀{f:Int→Int→Int} {z:Int},abO (ň b ns).1 f z↔abO b f z
 |[],b,_,f,z=>Iff.rfl
 |m::t,b,e,f,z=>by
  unfold ň at e ⊢
  split
  ·rename_i h1; rw[if_pos h1] at e; exact absurd e h1
  ·rename_i h1;rw[if_neg h1] at e;rw[Yt e];rcases MP (by simpa using h1) with⟨h,_⟩|⟨h,_,_⟩
   ·rw[h]
   ·rw[h]; exact aii
section
variable {B:Ü} (h:al3 B)
include h
end
structure Asked (b:Ü) (ns:List (Int×Int)) (B:Ü):Prop where
 room:al3 B
 nodes:∀n∈ns,QS B n
 hist:∀{f:Int→Int→Int} {z:Int},abO B f z↔abO b f z
 good:đ b
 gauges:B.2.1=b.2.1
theorem TA {b:Ü} (hI:In b) {ns:List (Int×Int)} (e:(ā b ns).2=0):Asked b ns (ā b ns).1:=by
 obtain⟨h1,h2,h3,h4⟩:=ki hI e;exact⟨h1,by rw[h2]; exact Yr h4 h3,by rw[h2]; exact Yt h3,h4,by rw[h2]; exact tF h3⟩
def UB (c:Cmp):Bool:=decide (c.2.2.1.length≤10)&&decide (c.2.2.2.1.length≤10)
theorem ajC (c:Cmp):zI c=some (UB c):=by
 unfold zI HM UB;rw[æ,æ,Ğ]
 by_cases h:c.2.2.1.length≤10
 ·rw[if_pos (by simp[ile]; omega)];simp[ile,h];omega
 ·rw[if_neg (by simp[ile]; omega)];simp[h]
def fewP (b:Ü):Bool :=
 !((b.2.2.2.2.1.take 50).any fun c=>!UB c)&&(decide (b.2.1.length≤14)&&(decide (b.2.2.1.length≤45)&&(decide (b.2.2.2.1.length≤14)&&(decide (b.2.2.2.2.1.length≤42)&&decide (b.2.2.2.2.2.length≤12)))))
theorem few_ok (b:Ü):MB b=some (fewP b):=by
 unfold MB Vm
 have last:(ifb (ile (Ý b.2.1) (14:Int)) (ifb (ile (Ý b.2.2.1) (45:Int)) (ifb (ile (Ý b.2.2.2.1) (14:Int)) (ifb (ile (Ý b.2.2.2.2.1) (42:Int)) (some (ile (Ý b.2.2.2.2.2) (12:Int))) (some false)) (some false)) (some false)) (some false)) =
  some (decide (b.2.1.length≤14)&&(decide (b.2.2.1.length≤45)&&(decide (b.2.2.2.1.length≤14)&&(decide (b.2.2.2.2.1.length≤42)&&decide (b.2.2.2.2.2.length≤12))))):=by
  have e:∀(n m:Nat),ile (n:Int) (m:Int)=decide (n≤m):=fun n m=>by simp[ile]
  rw[æ,æ,æ,æ,æ,show(14:Int)=((14:Nat):Int) from rfl,show(45:Int)=((45:Nat):Int) from rfl,show(42:Int)=((42:Nat):Int) from rfl,show(12:Int)=((12:Nat):Int) from rfl,e,e,e,e,e];generalize decide (b.2.1.length≤14)=x1;generalize decide (b.2.2.1.length≤45)=x2;generalize decide (b.2.2.2.1.length≤14)=x3;generalize decide (b.2.2.2.2.1.length≤42)=x4
  cases x1<;>cases x2<;>cases x3<;>cases x4<;>rfl
 rw[last];refine eI (į (b.2.2.2.2.1.take 50) (fun c=>!UB c) (fun _=>some false) (some false) (some (decide (b.2.1.length≤14)&&(decide (b.2.2.1.length≤45)&&(decide (b.2.2.2.1.length≤14)&&(decide (b.2.2.2.2.1.length≤42)&&decide (b.2.2.2.2.2.length≤12)))))) (fun _=>rfl) (fun i c hi hc kn=>?_) (fun kn=>?_)) ?_
 ·try dsimp only
  unfold tO;rw[List.length_take] at hi
  have hc':b.2.2.2.2.1[i]?=some c:=by rw[dW] at hc; split at hc<;>simp_all
  rw[Ó (show i<b.2.2.2.2.1.length by omega),Ö (decide_eq_true (by omega)),Ë hc',ajC,À,Õ (by omega) (by omega),Ğ]
 ·try dsimp only
  unfold tO;rw[List.length_take,Ğ]
  split
  ·rename_i h
   have h':50<b.2.2.2.2.1.length:=by rw[æ] at h; simp[ilt] at h; omega
   rw[Ò (decide_eq_false (by omega))]
  ·rfl
 ·unfold fewP
  cases List.any (List.take 50 b.2.2.2.2.1) (fun c=>!UB c)<;>rfl
theorem alm {b:Ü} (h:fewP b=true):ŷ b:=by
 simp only[fewP,cI,eA,decide_eq_true_eq] at h;obtain⟨h0,h1,h2,h3,h4,h5⟩:=h;refine⟨by omega,by omega,by omega,by omega,by omega,fun c hc=>?_⟩;rw[dP (by omega)] at h0;have:=ez.1 h0 c hc;simp[UB] at this;omega
section
variable {L:List Lk} {N:Nat} {x y H G:Int}
def alq (h:ĩ L N) (ht:Ax L N) (ho:ġ L N=true) {s t:Int} (hs:0≤s∧s<N) (hv:0≤t∧t<N):∃vs,Wl L (fun u=>u=s) vs t (dst L N s t):=by
 have h2:=h.n60;obtain⟨p,hp⟩:=(ĭ h.links (by omega)).1 ho;obtain⟨vs,hw⟩:=(δ h.links (by omega) hp hs).att t hv.1 hv.2 (ae4 h ht ho hs hv);exact⟨vs,Nr.1 hw⟩
def anl (h:ĩ L N) (ho:ġ L N=true) {s t d:Int} (hs:0≤s∧s<N) {vs:List Int} (hw:Wl L (fun u=>u=s) vs t d):dst L N s t≤d:=by
 have h2:=h.n60;obtain⟨p,hp⟩:=(ĭ h.links (by omega)).1 ho;exact(δ h.links (by omega) hp hs).low t vs d (Nr.2 hw)
end
inductive Wk (L:List Lk) (to:Int):Nat→Int→Int→Prop
 |nil:Wk L to 0 to 0
 |step {k:Nat} {v w m d:Int}:(v,w,m)∈L→Wk L to k w d→Wk L to (k+1) v (m+d)
section
variable {L:List Lk} {N:Nat}
def Wk.snoc {u v m:Int} (hl:(u,v,m)∈L):∀{k:Nat} {s d:Int},Wk L u k s d→Wk L v (k+1) s (d+m):=by
 intro k s d h
 induction h with
 |nil =>
  have:=Wk.step hl (Wk.nil (L:=L) (to:=v))
  have e:m+0=0+m:=by omega
  rw[e] at this;exact this
 | @step k a w m' d h1 h2 ih =>
  have:=Wk.step h1 ih
  have e:m'+(d+m)=m'+d+m:=by omega
  rw[e] at this;exact this
def Wl.front {s w m:Int} (hl:(s,w,m)∈L) {vs:List Int} {t d:Int} (h:Wl L (fun u=>u=w) vs t d):Wl L (fun u=>u=s) (vs++[s]) t (m+d):=by
 induction h with
 | @nil v hv =>
  have hv':v=w:=hv;subst hv';have:=Wl.step (Wl.nil (L:=L) (S:=fun u=>u=s) rfl) hl
  have e:0+m=m+0:=by omega
  rw[e] at this;exact this
 | @step vs u v m' d h1 h2 ih =>
  have:=Wl.step ih h2
  have e:m+d+m'=m+(d+m'):=by omega
  rw[e] at this;exact this
def Wk.wl {t:Int} {k:Nat} {s d:Int} (h:Wk L t k s d):∃vs,vs.length=k∧Wl L (fun u=>u=s) vs t d:=by
 induction h with
 |nil=>exact⟨[],rfl,.nil rfl⟩
 | @step k v w m d h1 h2 ih =>
  obtain⟨vs,e,h⟩:=ih;exact⟨vs++[v],by simp[e],h.front h1⟩
def ak3 {P:Int→Prop} {B:Int} (h:∃d,P d) (hB:∀d,P d→B≤d):∃d,P d∧∀e,P e→d≤e:=by
 obtain⟨d0,h0⟩:=h
 have:∀(n:Nat) (d:Int),P d→(d-B).toNat≤n→∃d,P d∧∀e,P e→d≤e:=by
  intro n
  induction n with
  |zero=>intro d hd hn; exact⟨d,hd,fun e he=>by have:=hB e he; have:=hB d hd; omega⟩
  |succ n ih =>
   intro d hd hn
   by_cases hx:∃e,P e∧e<d
   ·obtain⟨e,he,hl⟩:=hx;exact ih e he (by have:=hB e he; omega)
   ·exact⟨d,hd,fun e he=>by
     rcases gj e d with q|q
     ·exact absurd ⟨e,he,q⟩ hx
     ·exact q⟩
 exact this _ d0 h0 (cH _)
def Wl.cutK {S:Int→Prop} {vs:List Int} {u d:Int} (h:Wl L S vs u d):∀x∈u::vs,∃vs1 d1 k d2,Wl L S vs1 x d1∧(x::vs1) <:+ (u::vs)∧Wk L u k x d2∧d=d1+d2∧k≤vs.length:=by
 induction h with
 | @nil v hv =>
  intro x hx;simp at hx;subst hx;exact⟨[],0,0,0,.nil hv,List.suffix_refl _,.nil,by omega,by simp⟩
 | @step vs u v m d hw hl ih =>
  intro x hx;rcases cQ.1 hx with rfl|hx
  ·exact⟨u::vs,d+m,0,0,.step hw hl,List.suffix_refl _,.nil,by omega,by simp⟩
  ·obtain⟨vs1,d1,k,d2,g1,g2,g3,g4,g5⟩:=ih x hx;exact⟨vs1,d1,k+1,d2+m,g1,g2.trans (List.suffix_cons _ _),g3.snoc hl,by omega,by simp; omega⟩
def TE (hS:ĩ L N) (hno:ġ L N=false):∃(k:Nat) (v d:Int),1≤k∧k≤N∧(0≤v∧v<N)∧Wk L v k v d∧d<0:=by
 have hn:=hS.n60;apply Classical.byContradiction;intro hc
 have hcl:∀{k:Nat} {v d:Int},1≤k→k≤N→(0≤v∧v<N)→Wk L v k v d→0≤d:=fun {k v d} h1 h2 h3 h4=>by
  rcases gj d 0 with q|q
  ·exact absurd ⟨k,v,d,h1,h2,h3,h4,q⟩ hc
  ·exact q
 have hinr:∀l∈L,-4503599627370496≤l.2.2:=fun l hl=>(hS.most l hl).1
 let P:Int→Int→Prop:=fun v d=>∃vs,Wl L (fun u=>0≤u∧u<N) vs v d∧(v::vs).Nodup
 have hP:∀v:Int,0≤v∧v<N→∃d,P v d∧∀e,P v e→d≤e:=fun v hv=>ak3 (B:=-(60*4503599627370496)) ⟨0,[],.nil hv,by simp⟩ (by
  rintro d ⟨vs,h1,h2⟩;have q1:=h1.lowM hinr;have q2:=h1.short hS.inr (fun w hw=>hw) h2
  have:((vs.length:Nat):Int)*4503599627370496≤60*4503599627370496:=by omega
  omega)
 have ho:ġ L N=true:=by
  refine(ĭ hS.links (by omega)).2 ⟨fun v=>if hv:0≤v∧v<(N:Int) then Classical.choose (hP v hv) else 0,fun u v m hl=>?_⟩;have hr:=hS.inr _ hl;dsimp only at hr;obtain⟨⟨vs,hw,hnd⟩,hu2⟩:=Classical.choose_spec (hP u hr.1);obtain⟨_,hv2⟩:=Classical.choose_spec (hP v hr.2);have e1:(if hv:0≤u∧u<(N:Int) then Classical.choose (hP u hv) else 0)=Classical.choose (hP u hr.1):=dif_pos hr.1;have e2:(if hv:0≤v∧v<(N:Int) then Classical.choose (hP v hv) else 0)=Classical.choose (hP v hr.2):=dif_pos hr.2;dsimp only;rw[e1,e2];generalize Classical.choose (hP u hr.1)=a at *;generalize Classical.choose (hP v hr.2)=b at *
  by_cases hv:v∈u::vs
  ·obtain⟨vs1,d1,k,d2,g1,g2,g3,g4,g5⟩:=hw.cutK v hv;have hlen:=hw.short hS.inr (fun w hw=>hw) hnd;have:=hcl (by omega) (by omega) hr.2 (g3.snoc hl);have:=hv2 d1 ⟨vs1,g1,hnd.sublist g2.sublist⟩;omega
  ·have:=hv2 (a+m) ⟨u::vs,hw.step hl,fC.2 ⟨hv,hnd⟩⟩;omega
 rw[hno] at ho;cases ho
end
def agy {b:Ü} (h:In b) (n:Int×Int) (upper:Bool):In (oq b n upper).1.1:=by
 have h0:In ln:=⟨⟨by simp[ln],by simp[ln],by simp[ln],by simp[ln],by simp[ln],by simp[ln]⟩,by simp[ln]⟩;unfold oq
 by_cases e:(ā b [n]).2=0
 ·rw[if_neg (by simp[e])];have hr:=(ki h e).1
  split
  ·exact h0
  ·split
   ·exact amq (hr.good.inn hr.num) _ (by simp)
   ·exact h0
 ·rw[if_pos e]; exact h0
def y1:Hn exB (2,10)=((984,1011),0):=by decide +kernel
def y2:Hn exB (1,30)=((964,1005),0):=by decide +kernel
def y3:X0 exB (1,10) (2,10)=((-6,11),0):=by decide +kernel
def y4:anH exB 10 [1,2]=((1979,2018),0):=by decide +kernel
def y5:aj9 exB (2,0) (990,1010)=(3,0):=by decide +kernel
def y6:(oq exB (2,10) true).2=0∧(oq exB (2,10) true).1.2.2.2.1=1011:=by decide +kernel
def y7:afq exB (2,10) exC=(10,0):=by decide +kernel
def y8:MI exB (2,10) (900,1100) exC=(true,0):=by decide +kernel
def y9:adQ exB (oq exB (2,10) true).1=(true,0):=by decide +kernel
def y10:ä exB=0∧ġ (ß exB) ((Ê exB).length+1)=true:=by decide +kernel
def y11:oF (oq exB (2,10) true).1=0:=by decide +kernel
def afI:lW=some true:=by
 unfold lW Cr yM wZ;have hc:=agy yV (2,10) true
 have hv:I64 (oq exB (2,10) true).1.2.2.2.1:=by rw[y6.2]; unfold I64; omega
 rw[À];rw[show((((0:Int),(2:Int)),[((1:Int),(0:Int),(1000:Int),((-5:Int),(5:Int)),((1:Int),(10:Int)),(1:Int)),((2:Int),(0:Int),(1000:Int),((-50:Int),(50:Int)),((1:Int),(4:Int)),(0:Int))],[((1:Int),(10:Int))],[((1:Int),((20:Int),(29:Int)),(3:Int))],[((7:Int),(10:Int),[(1:Int)],[(2:Int)],(-20:Int),(1:Int),(100:Int),(200:Int))],([]:List (Int×Int))):Ü)=exB from rfl];rw[QT yV,À,QT yV,À,ag3 yV,À,anG yV _ (by decide),À,amb yV,À,ag2 yV,À,y1,y2,y3,y4,y5,y6.1,y6.2]
 rw[show yP exB ((2:Int),(10:Int)) ((8:Int),(10:Int),[(1:Int)],[(2:Int)],(0:Int),(0:Int),(0:Int),(0:Int))=some (afq exB (2,10) exC) from alZ yV _ (c:=exC) (by decide) (by decide),
  show pw exB ((2:Int),(10:Int)) ((900:Int),(1100:Int)) ((8:Int),(10:Int),[(1:Int)],[(2:Int)],(0:Int),(0:Int),(0:Int),(0:Int))=some (MI exB (2,10) (900,1100) exC) from agT yV _ _ (c:=exC) (by decide) (by decide),
  ajR yV hc hv,ab3 ((ê _).1 y10.1) yV.num y10.2,KW hc hv,y7,y8,y9,y11]
 rfl
def aa8 {b:Ü} (h:đ b) {y:List Int} (hy:y.length=(Ê b).length+1) (h0:gv y 0=0) (hp:Pot (ß b) (gv y)):akb b (y.drop 1)=(true,0):=by
 have e:0::y.drop 1=y:=by
  cases y with
  |nil=>simp at hy
  |cons a t =>
   have:a=0:=h0;rw[this]; rfl
 rw[abG];refine⟨h,yH.2 ⟨by simp; omega,fun n hn=>?_⟩,?_⟩
 ·obtain⟨i,hi,rfl⟩:=List.mem_iff_getElem.1 hn;rw[List.length_drop] at hi;have:=akI h hp (v:=((1+i:Nat):Int)) (by omega) (by omega);rw[h0] at this;unfold gv at this;rw[Int.toNat_natCast,List.getElem?_eq_getElem (by omega)] at this;rw[List.getElem_drop];simp only[Option.getD_some] at this;omega
 ·unfold anf;rw[e];exact aa0.2 hp
theorem Mh (L:List Lk) (N:Nat):(X1 L N).length=N:=by unfold X1 ģ; rw[List.length_map,ğ,ö]
theorem MU {L:List Lk} {N:Nat} {v:Int} (h0:0≤v) (h1:v<N):gv (X1 L N) v=gv (ģ L N) v-gv (ģ L N) 0:=by
 have hl:(ģ L N).length=N:=by unfold ģ; rw[ğ,ö]
 have h2:v.toNat<(ģ L N).length:=by omega
 unfold X1;generalize gv (ģ L N) 0=z;unfold gv;rw[List.getElem?_map,List.getElem?_eq_getElem h2];rfl
theorem aee {L:List Lk} {N:Nat} (h:ĩ L N) (ho:ġ L N=true):Pot L (gv (X1 L N))∧gv (X1 L N) 0=0:=by
 have h2:=h.n60;have h1:=h.n1;obtain⟨p,hp⟩:=(ĭ h.links (by omega)).1 ho;refine⟨fun u v m hl=>?_,by rw[MU (by omega) (by omega)]; omega⟩;have hr:=h.inr _ hl
 have hlen:(ģ L N).length=N:=by unfold ģ; rw[ğ,ö]
 have hu:gv (ģ L N) u≤0:=(UN h.links (by omega) ho _ (List.mem_of_getElem? (Ug (by omega)))).2;have:=(zl h.links (by omega) hp).pot h.inr hl (by show gv (ģ L N) u≠ķ; unfold ķ; omega);have e1:=MU (L:=L) hr.1.1 hr.1.2;have e2:=MU (L:=L) hr.2.1 hr.2.2;dsimp only at e1 e2;have e:gv (ģ L N) v≤gv (ģ L N) u+m:=this;omega
section
variable {B:Ü} (h:al3 B)
include h
theorem ae2 {v:Int} (hv:0≤v∧v<((Ê B).length+1:Nat)):(-4503599627370496≤Aw B 0 v∧Aw B 0 v≤4503599627370496)∧(-4503599627370496≤Aw B v 0∧Aw B v 0≤4503599627370496):=by
 have a1:Aw B 0 v≤4503599627370496:=agP h.good.sys h.good.tied h.op hv.1 hv.2;have a2:Aw B v 0≤4503599627370496:=agO h.good.sys h.good.tied h.op hv.1 hv.2;have a3 : -(Aw B v 0)≤Aw B 0 v:=G0 h.good.sys h.good.tied h.op hv (Ŏ B);omega
def kg (B:Ü) (u v:Int):List Lk:=ß B++[(v,u,-(Aw B u v))]
theorem M4 {u v:Int} (hu:0≤u∧u<((Ê B).length+1:Nat)) (hv:0≤v∧v<((Ê B).length+1:Nat)) (hne:v≠u) (hb : -4503599627370496≤Aw B u v∧Aw B u v≤4503599627370496):ĩ (kg B u v) ((Ê B).length+1):=by
 have hs:=h.good.sys;have hl:=Gs h.good;have hn:=h.good.nodes;have hc:=h.good.nC
 have q:∀l∈kg B u v,l∈ß B∨l=(v,u,-(Aw B u v)):=by
  intro l hl;rcases cN.1 hl with h|h
  ·exact .inl h
  ·exact .inr (cR.1 h)
 refine⟨hs.n1,hs.n60,by unfold kg; rw[List.length_append,hl]; simp only[List.length_singleton]; omega,fun l hl=>?_,fun l hl=>?_,fun l hl=>?_⟩
 ·rcases q l hl with h|rfl
  ·exact hs.inr l h
  ·exact⟨hv,hu⟩
 ·rcases q l hl with h|rfl
  ·exact hs.noloop l h
  ·exact hne
 ·rcases q l hl with h|rfl
  ·exact hs.most l h
  ·dsimp only; omega
theorem Tf {u v:Int} (hu:0≤u∧u<((Ê B).length+1:Nat)) (hv:0≤v∧v<((Ê B).length+1:Nat)) (hs:ĩ (kg B u v) ((Ê B).length+1)):ġ (kg B u v) ((Ê B).length+1)=true:=by
 have hN:=hs.n60;have ho:=G0 h.good.sys h.good.tied h.op hv hu;obtain⟨p,hp,e⟩:=aiY h.good.sys h.good.tied h.op hv hu (t:=Aw B u v) ho (dE _);refine(ĭ hs.links (by omega)).2 ⟨p,fun a b m hl=>?_⟩;rcases cN.1 hl with h1|h1
 ·exact hp a b m h1
 ·rw[cR] at h1;cases h1;omega
theorem Yv {u v:Int} (hu:0≤u∧u<((Ê B).length+1:Nat)) (hv:0≤v∧v<((Ê B).length+1:Nat)) (hne:v≠u) (hb : -4503599627370496≤Aw B u v∧Aw B u v≤4503599627370496) :
 yR (JC B) u v=some (X1 (kg B u v) ((Ê B).length+1),0):=by
 have hs:=M4 h hu hv hne hb;have hl:=h.good.sys.len;unfold yR O3;rw[wI,Hq h.good.sys hu hv,À,tz h.good.sys h.good.tied hu hv,if_pos h.op];dsimp only
 rw[Ò (by rfl),Ė (Ô (by omega)),show dst (ß B) ((Ê B).length+1) u v=Aw B u v from rfl,Õ (by omega) (by omega),Ė (Ô (by simp only[dl]; omega)),Int.zero_sub,
  show ß B++[(v,u,-(Aw B u v))]=kg B u v from rfl,tC hs.links hs.n1 (by have:=hs.n60; omega),if_pos (Tf h hu hv hs),À]
theorem Yw {u v:Int} (hu:0≤u∧u<((Ê B).length+1:Nat)) (hv:0≤v∧v<((Ê B).length+1:Nat)) (hs:ĩ (kg B u v) ((Ê B).length+1)) :
 Pot (ß B) (gv (X1 (kg B u v) ((Ê B).length+1)))∧gv (X1 (kg B u v) ((Ê B).length+1)) 0=0∧gv (X1 (kg B u v) ((Ê B).length+1)) v-gv (X1 (kg B u v) ((Ê B).length+1)) u=Aw B u v:=by
 obtain⟨h1,h2⟩:=aee hs (Tf h hu hv hs);have h3:Pot (ß B) (gv (X1 (kg B u v) ((Ê B).length+1))):=fun a b m hl=>h1 a b m (List.mem_append.2 (.inl hl));have h4:=Qm h.good.sys h.good.tied h.op hu hv h3;have h5:=h1 v u _ (List.mem_append.2 (.inr (List.mem_singleton.2 rfl)));refine⟨h3,h2,?_⟩;unfold Aw at h5 ⊢;omega
def uZ (B:Ü) (n:Int×Int) (upper:Bool):List Int :=
 (if upper then X1 (kg B 0 (pI B n.1 n.2)) ((Ê B).length+1) else X1 (kg B (pI B n.1 n.2) 0) ((Ê B).length+1)).drop 1
theorem aaP {n:Int×Int} (hn:QS B n) (upper:Bool):akb B (uZ B n upper)=(true,0)∧gv (0::uZ B n upper) (pI B n.1 n.2)=(if upper then(ivR B n).2 else(ivR B n).1)∧(uZ B n upper).length=(Ê B).length:=by
 have hr:=Ŗ B n;have hz:=Ŏ B;have hne:=(Mx h.good).2 hn;have hd:=ae2 h hr
 have key:∀y:List Int,y.length=(Ê B).length+1→gv y 0=0→0::y.drop 1=y:=by
  intro y hy h0
  cases y with
  |nil=>simp at hy
  |cons a t =>
   have:a=0:=h0;rw[this]; rfl
 unfold uZ
 cases upper with
 |true =>
  rw[if_pos rfl,if_pos rfl];have hs:=M4 h hz hr hne hd.1;obtain⟨p1,p2,p3⟩:=Yw h hz hr hs;have hl:=Mh (kg B 0 (pI B n.1 n.2)) ((Ê B).length+1);refine⟨aa8 h.good hl p2 p1,?_,by rw[List.length_drop,hl]; omega⟩;rw[key _ hl p2];unfold ivR;omega
 |false =>
  rw[if_neg (by simp),if_neg (by simp)];have hs:=M4 h hr hz (fun e=>hne e.symm) hd.2;obtain⟨p1,p2,p3⟩:=Yw h hr hz hs;have hl:=Mh (kg B (pI B n.1 n.2) 0) ((Ê B).length+1);refine⟨aa8 h.good hl p2 p1,?_,by rw[List.length_drop,hl]; omega⟩;rw[key _ hl p2];unfold ivR;dsimp only;omega
end
theorem agd {ρ:Type}:@rh ρ=@Ă ρ:=rfl
def Ag (b:Ü) (n:Int×Int) (upper:Bool):List Int×Int:=if (ā b [n]).2≠0 then([],(ā b [n]).2) else(uZ (ā b [n]).1 n upper,0)
theorem ag0 {b:Ü} (hI:In b) (n:Int×Int) (upper:Bool):vr b n upper=some (Ag b n upper):=by
 unfold vr CW Ag;rw[agd];refine(pP hI (ns:=[n]) (by simp) (fun e=>some ([],e)) (fun e he=>by rw[Ė (by simp[ine,he])]) (fun z he=>by rw[Ė (by simp[ine,he])]) (fun _ _ _=>rfl)).trans ?_
 split
 ·rfl
 ·rename_i e;have hA:=TA hI (by simpa using e);have hr:=hA.room;have hn:=hA.nodes n (by simp);dsimp only;generalize (ā b [n]).1=B at hr hn ⊢;have hd:=ae2 hr (Ŗ B n);have hne:=(Mx hr.good).2 hn;rw[vg,show((((Ê B).length:Int)+1,ß B):Sys)=JC B from rfl,KU hr.good hr.num,À];unfold uZ
  cases upper with
  |true =>
   rw[ĺ,Yv hr (Ŏ B) (Ŗ B n) hne hd.1,À,Ò (by rfl),Ė (decide_eq_true (by show(1:Int)≤((X1 (kg B 0 (pI B n.1 n.2)) ((Ê B).length+1)).length:Int); rw[Mh]; omega))];rfl
  |false =>
   rw[î,Yv hr (Ŗ B n) (Ŏ B) (fun e=>hne e.symm) hd.2,À,Ò (by rfl),Ė (decide_eq_true (by show(1:Int)≤((X1 (kg B (pI B n.1 n.2) 0) ((Ê B).length+1)).length:Int); rw[Mh]; omega))];rfl
def QX (N:Nat) (g:Int→Int):List Int:=(List.range N).map fun(v:Nat)=>g v
def AA (N:Nat) (f:Int→Int→Int):List (List Int):=(List.range N).map fun(u:Nat)=>QX N (f u)
section
variable {N:Nat} {ρ:Type}
def akH (g:Int→Int):(QX N g).length=N:=by simp[QX]
def akv (f:Int→Int→Int):(AA N f).length=N:=by simp[AA]
def nJ (g:Int→Int):č (QX N g)=(N:Int):=by unfold č; rw[akH]
def tK (f:Int→Int→Int):č (AA N f)=(N:Int):=by unfold č; rw[akv]
def aek (g:Int→Int) {v:Int} (h0:0≤v) (h1:v<N):(QX N g)[v.toNat]?=some (g v):=by
 unfold QX;rw[List.getElem?_map,List.getElem?_range (by omega),Option.map_some,show((v.toNat:Nat):Int)=v by omega]
def aeb (f:Int→Int→Int) {u:Int} (h0:0≤u) (h1:u<N):(AA N f)[u.toNat]?=some (QX N (f u)):=by
 unfold AA;rw[List.getElem?_map,List.getElem?_range (by omega),Option.map_some,show((u.toNat:Nat):Int)=u by omega]
def pS (f:Int→Int→Int) {u:Int} (h0:0≤u) (h1:u<N) (K:List Int→Option ρ):ľ (AA N f) u.toNat K=K (QX N (f u)):=nM (aeb f h0 h1) K
def md (g:Int→Int) {v:Int} (h0:0≤v) (h1:v<N) (K:Int→Option ρ):ľ (QX N g) v.toNat K=K (g v):=nM (aek g h0 h1) K
def UR {g g':Int→Int} (h:∀v:Int,0≤v→v<N→g v=g' v):QX N g=QX N g':=by
 unfold QX;refine List.map_congr_left fun v hv=>?_;have:=List.mem_range.1 hv;exact h v (by omega) (by omega)
def qT {f f':Int→Int→Int} (h:∀u v:Int,0≤u→u<N→0≤v→v<N→f u v=f' u v):AA N f=AA N f':=by
 unfold AA;refine List.map_congr_left fun u hu=>?_;have:=List.mem_range.1 hu;exact UR fun v h0 h1=>h u v (by omega) (by omega) h0 h1
def ahr {α:Type} (F:Nat→α) (N i:Nat) (x:α):((List.range N).map F).set i x=(List.range N).map fun j=>if j=i then x else F j:=by
 refine List.ext_getElem? fun j=>?_;rw[fF,fG,fG];rcases dv j N with hj|hj
 ·rw[eW hj]
  by_cases h:i=j
  ·subst h;rw[if_pos rfl,if_pos (by simpa using hj)];simp
  ·rw[if_neg h];simp[Ne.symm h]
 ·rw[fB (l:=List.range N) (by simpa using hj)]
  by_cases h:i=j
  ·subst h;rw[if_pos rfl,if_neg (by simp; omega)];rfl
  ·rw[if_neg h];rfl
def ab0 (g:Int→Int) {v:Int} (h0:0≤v) (x:Int):(QX N g).set v.toNat x=QX N fun b=>if b=v then x else g b:=by
 unfold QX;rw[ahr];refine List.map_congr_left fun j _=>?_
 by_cases h:j=v.toNat
 ·rw[if_pos h]; exact(if_pos (by omega)).symm
 ·rw[if_neg h]; exact(if_neg (by omega)).symm
def ahq (f:Int→Int→Int) {u v:Int} (h0:0≤u) (h1:0≤v) (x:Int):(AA N f).set u.toNat ((QX N (f u)).set v.toNat x)=AA N fun a b=>if a=u∧b=v then x else f a b:=by
 rw[ab0 _ h1];unfold AA;rw[ahr];refine List.map_congr_left fun j _=>?_
 by_cases h:j=u.toNat
 ·have hj:(j:Int)=u:=by omega
  rw[if_pos h,hj];congr 1;funext b
  by_cases hb:b=v<;>simp[hb]
 ·rw[if_neg h];congr 1;funext b;exact(if_neg (by omega)).symm
end
inductive WI (L:List Lk) (k u:Int):Int→Int→Prop
 |nil:WI L k u u 0
 |one {v m:Int}:(u,v,m)∈L→WI L k u v m
 |step {w v d m:Int}:WI L k u w d→0≤w→w<k→(w,v,m)∈L→WI L k u v (d+m)
section
variable {L:List Lk} {N:Nat} {k u:Int}
def WI.mono {k':Int} (hk:k≤k') {v d:Int} (h:WI L k u v d):WI L k' u v d:=by
 induction h with
 |nil=>exact .nil
 |one h=>exact .one h
 |step _ h0 h1 h2 ih=>exact ih.step h0 (by omega) h2
def WI.app {w v d e:Int} (h1:WI L k u w d) (h2:WI L k w v e) (h0:0≤w) (hk:w<k):WI L k u v (d+e):=by
 induction h2 with
 |nil=>rw[fX]; exact h1
 |one h=>exact h1.step h0 hk h
 | @step x v e m _ g0 g1 g2 ih =>
  have:=ih.step g0 g1 g2;rw[Int.add_assoc] at this;exact this
def WI.wl {v d:Int} (h:WI L k u v d):∃vs,Wl L (fun x=>x=u) vs v d:=by
 induction h with
 |nil=>exact⟨[],.nil rfl⟩
 | @one v m h =>
  have:=Wl.step (Wl.nil (L:=L) (S:=fun x=>x=u) rfl) h;rw[Int.zero_add] at this;exact⟨_,this⟩
 |step _ _ _ h2 ih =>
  obtain⟨vs,h⟩:=ih;exact⟨_,h.step h2⟩
def WI.of_wl (hL:InR L N) (hk:(N:Int)≤k) {vs:List Int} {v d:Int} (h:Wl L (fun x=>x=u) vs v d):WI L k u v d:=by
 induction h with
 |nil h =>
  obtain rfl:=h;exact .nil
 | @step vs w v m d _ h2 ih =>
  have:=(hL _ h2).1;exact ih.step this.1 (by dsimp only at this; omega) h2
def WI.of_wk (hL:InR L N) (hk:(N:Int)≤k) {n:Nat} {v d:Int} (h:Wk L v n u d):WI L k u v d:=by
 obtain⟨vs,_,h⟩:=h.wl;exact .of_wl hL hk h
def Wl.shorten {S:Int→Prop} {vs:List Int} {v d:Int} (h:Wl L S vs v d):∃vs' d',Wl L S vs' v d'∧(v::vs').Nodup:=by
 have h1:∀{vs:List Int} {v d:Int},Wl L S vs v d→Wl (L.map fun l=>(l.1,l.2.1,0)) S vs v 0:=fun h=>by
  induction h with
  |nil h=>exact .nil h
  | @step vs w v m d _ h2 ih =>
   have:=ih.step (v:=v) (m:=0) (dQ.2 ⟨_,h2,rfl⟩);exact this
 have h2:∀{vs:List Int} {v d:Int},Wl (L.map fun l=>(l.1,l.2.1,0)) S vs v d→∃d',Wl L S vs v d':=fun h=>by
  induction h with
  |nil h=>exact⟨0,.nil h⟩
  | @step vs w v m d _ h2 ih =>
   obtain⟨d',h⟩:=ih;obtain⟨l,hl,e⟩:=dQ.1 h2;obtain⟨a,b,c⟩:=l;simp only[Prod.mk.injEq] at e;obtain⟨rfl,rfl,rfl⟩:=e;exact⟨_,h.step hl⟩
 obtain⟨vs',d',g1,_,g3⟩:=(h1 h).simple (p:=fun _=>0) (fun a b m hm=>by
  obtain⟨l,_,e⟩:=List.mem_map.1 hm;simp only[Prod.mk.injEq] at e;dsimp only
  omega)
 obtain⟨d'',g4⟩:=h2 g1;exact⟨vs',d'',g4,g3⟩
def afK (L:List Lk) (k u v:Int):List Lk:=L.filter fun l=>(l.1==u||(decide (0≤l.1)&&decide (l.1<k)))&&(l.2.1==v||(decide (0≤l.2.1)&&decide (l.2.1<k)))
def rN {v:Int} {l:Lk}:l∈afK L k u v↔l∈L∧(l.1=u∨(0≤l.1∧l.1<k))∧(l.2.1=v∨(0≤l.2.1∧l.2.1<k)):=by
 unfold afK;rw[List.mem_filter];simp
def WI.rest (v:Int) {w d:Int} (h:WI L k u w d):(w=v∨(0≤w∧w<k))→∃vs,Wl (afK L k u v) (fun x=>x=u) vs w d:=by
 induction h with
 |nil=>exact fun _=>⟨[],.nil rfl⟩
 | @one w m h =>
  intro hw;have:=Wl.step (Wl.nil (L:=afK L k u v) (S:=fun x=>x=u) rfl) (rN.2 ⟨h,.inl rfl,hw⟩);rw[Int.zero_add] at this;exact⟨_,this⟩
 | @step x w d m _ h0 h1 h2 ih =>
  intro hw;obtain⟨vs,h⟩:=ih (.inr ⟨h0,h1⟩);exact⟨_,h.step (rN.2 ⟨h2,.inr ⟨h0,h1⟩,hw⟩)⟩
def WI.of_rest {v:Int} {vs:List Int} {w d:Int} (h:Wl (afK L k u v) (fun x=>x=u) vs w d):v∉vs→WI L k u w d:=by
 induction h with
 |nil h =>
  obtain rfl:=h;exact fun _=>.nil
 | @step vs x w m d h1 h2 ih =>
  intro hv;obtain⟨g1,g2,g3⟩:=rN.1 h2;have ih':=ih fun h=>hv (by simp[h]);have hxv:x≠v:=fun e=>hv (by simp[e])
  cases h1 with
  |nil h =>
   obtain rfl:=h;rw[Int.zero_add];exact .one g1
  |step h3 h4 =>
   obtain⟨_,_,g4⟩:=rN.1 h4;rcases g4 with g4|g4
   ·exact absurd g4 hxv
   ·exact ih'.step g4.1 g4.2 g1
def WI.high (hS:ĩ L N) {v d:Int} (hu:0≤u∧u<N) (h:WI L k u v d):∃d',WI L k u v d'∧d'≤270215977642229760:=by
 have hn:=hS.n60;obtain⟨vs,hw⟩:=h.rest v (.inl rfl);obtain⟨vs',d',h1,h2⟩:=hw.shorten;have hin:InR (afK L k u v) N:=fun l hl=>hS.inr l (rN.1 hl).1;have hlen:=h1.short hin (fun w hw=>by rw[hw]; exact hu) h2;have hhi:=h1.high (M:=4503599627370496) fun l hl=>(hS.most l (rN.1 hl).1).2;refine⟨d',.of_rest h1 (fC.1 h2).1,?_⟩;omega
def af6 (L:List Lk) (k:Int):List Lk:=L.filter fun l=>decide (l.1<k)&&decide (l.2.1<k)
def Xb {l:Lk}:l∈af6 L k↔l∈L∧l.1<k∧l.2.1<k:=by
 unfold af6;rw[List.mem_filter];simp
def aeJ (hS:ĩ L N):ĩ (af6 L k) N:=hS.sub (fun l hl=>(Xb.1 hl).1) (dz _ _)
def WI.of_low (hS:ĩ L N) {v d:Int} {n:Nat} (h:Wk (af6 L k) v n u d):WI L k u v d:=by
 obtain⟨vs,_,hw⟩:=h.wl;clear h;rename_i hlen;clear hlen
 induction hw with
 |nil h =>
  obtain rfl:=h;exact .nil
 | @step vs w v m d _ h2 ih =>
  obtain⟨g1,g2,g3⟩:=Xb.1 h2;have:=(hS.inr _ g1).1;exact ih.step this.1 g2 g1
def akY (hS:ĩ L N) (hc:∀v d:Int,0≤v→v<N→WI L k v v d→0≤d):ġ (af6 L k) N=true:=by
 cases ho:ġ (af6 L k) N with
 |true=>rfl
 |false =>
  obtain⟨n,v,d,_,_,h3,h4,h5⟩:=TE (aeJ hS) ho;have:=hc v d h3.1 h3.2 (.of_low hS h4);omega
def WI.low (hS:ĩ L N) (hc:∀v d:Int,0≤v→v<N→WI L k v v d→0≤d) {v d:Int} (h:WI L k u v d) : -2314850208468434944≤d:=by
 have hn:=hS.n60;have ho:=akY hS hc;have hs:=aeJ (k:=k) hS;have hbd:=UN hs.links (by omega) ho;obtain⟨hp,_⟩:=aee hs ho
 let p:Int→Int:=fun v=>if 0≤v∧v<N then gv (ģ (af6 L k) N) v else 0
 have hlen:(ģ (af6 L k) N).length=N:=by unfold ģ; rw[ğ,ö]
 have hpb:∀v,-2305843009213693952≤p v∧p v≤0:=fun v=>by
  show -2305843009213693952≤(if 0≤v∧v<N then gv (ģ (af6 L k) N) v else 0)∧(if 0≤v∧v<N then gv (ģ (af6 L k) N) v else 0)≤0
  split
  ·rename_i hv;exact hbd _ (cO (Ug (by omega)))
  ·omega
 have hpp:∀a b m,(a,b,m)∈af6 L k→p b≤p a+m:=fun a b m hl=>by
  have hr:=hs.inr _ hl;dsimp only at hr;have:=hp a b m hl;rw[MU hr.1.1 hr.1.2,MU hr.2.1 hr.2.2] at this;show(if 0≤b∧b<N then gv (ģ (af6 L k) N) b else 0)≤(if 0≤a∧a<N then gv (ģ (af6 L k) N) a else 0)+m;rw[if_pos hr.1,if_pos hr.2];omega
 have key:∀{v d:Int},WI L k u v d→(v<k→p v-4503599627370496≤d)∧-2314850208468434944≤d:=fun {v d} h=>by
  induction h with
  |nil=>have:=hpb u; exact⟨fun _=>by omega,by omega⟩
  | @one v m h =>
   have:=hpb v;have:=(hS.most _ h).1;dsimp only at this;exact⟨fun _=>by omega,by omega⟩
  | @step w v d m _ h0 h1 h2 ih =>
   have hm:=(hS.most _ h2).1;dsimp only at hm;have hi:=ih.1 h1;have hw:=hpb w;refine⟨fun hv=>?_,by omega⟩;have:=hpp w v m (Xb.2 ⟨h2,h1,hv⟩);omega
 exact(key h).2
def lkF (f:Int→Int→Int) (l:Lk):Int→Int→Int:=fun a b=>if a=l.1∧b=l.2.1 then min (f l.1 l.2.1) l.2.2 else f a b
def adk (a b:Int):Int:=if a=b then 0 else ķ
def upF (f:Int→Int→Int) (k:Int):Int→Int→Int:=fun a b=>if f a k=ķ then f a b else if f k b=ķ then f a b else min (f a b) (f a k+f k b)
def fw (L:List Lk):Nat→Int→Int→Int
 |0=>L.foldl lkF adk
 |k+1=>upF (fw L k) k
def Um (a b:Int):∀(M:List Lk) (f:Int→Int→Int),(M.foldl lkF f) a b≤f a b∧(∀m,(a,b,m)∈M→(M.foldl lkF f) a b≤m)∧((M.foldl lkF f) a b=f a b∨∃m,(a,b,m)∈M∧(M.foldl lkF f) a b=m)
 |[],f=>⟨dE _,fun _ h=>by simp at h,.inl rfl⟩
 |l::M,f=>by
  rw[fP];obtain⟨i1,i2,i3⟩:=Um a b M (lkF f l)
  have key:lkF f l a b≤f a b∧((a=l.1∧b=l.2.1)→lkF f l a b≤l.2.2)∧(lkF f l a b=f a b∨((a=l.1∧b=l.2.1)∧lkF f l a b=l.2.2)):=by
   unfold lkF
   by_cases h:a=l.1∧b=l.2.1
   ·rw[if_pos h,h.1,h.2];refine⟨by omega,fun _=>by omega,?_⟩
    by_cases hc:f l.1 l.2.1≤l.2.2
    ·exact .inl (by omega)
    ·exact .inr ⟨⟨rfl,rfl⟩,by omega⟩
   ·rw[if_neg h];exact⟨dE _,fun h'=>absurd h' h,.inl rfl⟩
  obtain⟨k1,k2,k3⟩:=key;refine⟨by omega,fun m hm=>?_,?_⟩
  ·rcases cQ.1 hm with h|h
   ·subst h;have:=k2 ⟨rfl,rfl⟩;dsimp only at this;omega
   ·exact i2 m h
  ·rcases i3 with h|⟨m,h,e⟩
   ·rcases k3 with h'|⟨⟨h1,h2⟩,h'⟩
    ·exact .inl (h.trans h')
    ·exact .inr ⟨l.2.2,by rw[h1,h2]; simp,h.trans h'⟩
   ·exact .inr ⟨m,by simp[h],e⟩
structure Tab (L:List Lk) (N:Nat) (k:Nat) (f:Int→Int→Int):Prop where
 att:∀a b:Int,0≤a→a<N→0≤b→b<N→f a b≠ķ→WI L k a b (f a b)
 le:∀a b s:Int,0≤a→a<N→0≤b→b<N→WI L k a b s→f a b≤s∧f a b≠ķ
 diag:∀a:Int,0≤a→a<N→f a a=0
def Tab.closed {f:Int→Int→Int} {k:Nat} (h:Tab L N k f):∀v d:Int,0≤v→v<N→WI L k v v d→0≤d:=fun v d h0 h1 hw=>by
 have:=(h.le v v d h0 h1 h0 h1 hw).1;rw[h.diag v h0 h1] at this;exact this
def Tab.bd (hS:ĩ L N) {f:Int→Int→Int} {k:Nat} (h:Tab L N k f) {a b:Int} (ha:0≤a∧a<N) (hb:0≤b∧b<N) (hf:f a b≠ķ) : -2314850208468434944≤f a b∧f a b≤270215977642229760:=by
 have hw:=h.att a b ha.1 ha.2 hb.1 hb.2 hf;obtain⟨d,hd,hle⟩:=hw.high hS ha;have:=(h.le a b d ha.1 ha.2 hb.1 hb.2 hd).1;exact⟨hw.low hS h.closed,by omega⟩
def aku (hS:ĩ L N):Tab L N 0 (fw L 0):=by
 have key:∀a b,(fw L 0 a b≤adk a b)∧(∀m,(a,b,m)∈L→fw L 0 a b≤m)∧(fw L 0 a b=adk a b∨∃m,(a,b,m)∈L∧fw L 0 a b=m):=fun a b=>Um a b L adk;refine⟨fun a b ha ha' hb hb' hf=>?_,fun a b s ha ha' hb hb' hw=>?_,fun a ha ha'=>?_⟩
 ·rcases(key a b).2.2 with h|⟨m,h,e⟩
  ·rw[h] at hf ⊢;unfold adk at hf ⊢
   by_cases hab:a=b
   ·subst hab; rw[if_pos rfl]; exact .nil
   ·rw[if_neg hab] at hf; exact absurd rfl hf
  ·rw[e]; exact .one h
 ·have hs:fw L 0 a b≤s∧s≤4503599627370496:=by
   cases hw with
   |nil =>
    have:=(key a a).1;unfold adk at this;rw[if_pos rfl] at this;omega
   |one h=>exact⟨(key a b).2.1 _ h,(hS.most _ h).2⟩
   |step _ h0 h1 _=>omega
  refine⟨hs.1,fun hF=>?_⟩;rw[hF] at hs;unfold ķ at hs;omega
 ·rcases(key a a).2.2 with h|⟨m,h,e⟩
  ·rw[h]; unfold adk; rw[if_pos rfl]
  ·exact absurd rfl (hS.noloop _ h)
def aea (hS:ĩ L N) {k:Nat} (hk:k<N) {f:Int→Int→Int} (h:Tab L N k f) :
 (∀a b:Int,0≤a→a<N→0≤b→b<N→upF f k a b≠ķ→WI L ((k+1:Nat):Int) a b (upF f k a b)) ∧
 (∀a b s:Int,0≤a→a<N→0≤b→b<N→WI L ((k+1:Nat):Int) a b s→upF f k a b≤s∧upF f k a b≠ķ) ∧
 (∀a:Int,0≤a→a<N→upF f k a a≤0):=by
 have hk0:(0:Int)≤k∧(k:Int)<N:=by omega
 -- the element that a pass gives
 have cases3:∀a b:Int,upF f k a b=f a b∨(f a k≠ķ∧f k b≠ķ∧upF f k a b=f a k+f k b):=fun a b=>by
  unfold upF
  by_cases h1:f a k=ķ
  ·rw[if_pos h1]; exact .inl rfl
  rw[if_neg h1]
  by_cases h2:f k b=ķ
  ·rw[if_pos h2]; exact .inl rfl
  rw[if_neg h2]
  by_cases h3:f a b≤f a k+f k b
  ·exact .inl (by omega)
  ·exact .inr ⟨h1,h2,by omega⟩
 have lim:∀a b:Int,0≤a→a<N→0≤b→b<N→f a b≤ķ:=fun a b h0 h1 h2 h3=>by
  by_cases hf:f a b=ķ
  ·omega
  ·have:=h.bd hS ⟨h0,h1⟩ ⟨h2,h3⟩ hf; unfold ķ; omega
 have upper:∀a b:Int,upF f k a b≤f a b∧(f a k≠ķ→f k b≠ķ→upF f k a b≤f a k+f k b):=fun a b=>by
  unfold upF
  by_cases h1:f a k=ķ
  ·rw[if_pos h1]; exact⟨dE _,fun h'=>absurd h1 h'⟩
  rw[if_neg h1]
  by_cases h2:f k b=ķ
  ·rw[if_pos h2]; exact⟨dE _,fun _ h'=>absurd h2 h'⟩
  rw[if_neg h2];exact⟨by omega,fun _ _=>by omega⟩
 have B:=fun(a b:Int) (h0:0≤a) (h1:a<N) (h2:0≤b) (h3:b<N) (hf:f a b≠ķ)=>h.bd hS ⟨h0,h1⟩ ⟨h2,h3⟩ hf
 -- if there is a walk, the element is told
 have ne:∀a b:Int,0≤a→a<N→0≤b→b<N→(f a b≠ķ∨(f a k≠ķ∧f k b≠ķ))→upF f k a b≠ķ:=fun a b h0 h1 h2 h3 hc hF=>by
  have hu:=upper a b;rcases hc with hc|⟨hc1,hc2⟩
  ·have:=B a b h0 h1 h2 h3 hc;rw[hF] at hu;unfold ķ at hu;omega
  ·have b1:=B a k h0 h1 hk0.1 hk0.2 hc1;have b2:=B k b hk0.1 hk0.2 h2 h3 hc2;have:=hu.2 hc1 hc2;rw[hF] at this;unfold ķ at this;omega
 have colk:∀a:Int,0≤a→a<N→upF f k a k=f a k:=fun a h0 h1=>by
  have hd:=h.diag k hk0.1 hk0.2;unfold upF;rw[hd]
  split
  ·rfl
  ·rw[if_neg (by decide)]; omega
 refine⟨fun a b h0 h1 h2 h3 hf=>?_,fun a b s h0 h1 h2 h3 hw=>?_,fun a h0 h1=>?_⟩
 ·rcases cases3 a b with e|⟨e1,e2,e⟩
  ·rw[e] at hf ⊢;exact(h.att a b h0 h1 h2 h3 hf).mono (by omega)
  ·rw[e];exact((h.att a k h0 h1 hk0.1 hk0.2 e1).mono (by omega)).app ((h.att k b hk0.1 hk0.2 h2 h3 e2).mono (by omega)) hk0.1 (by omega)
 ·-- by the walk
  have main:∀{v s:Int},WI L ((k+1:Nat):Int) a v s→(0≤v∧v<N)→upF f k a v≤s∧(f a v≠ķ∨(f a k≠ķ∧f k v≠ķ)):=fun {v s} hw=>by
   induction hw with
   |nil =>
    intro hv;have:=h.le a a 0 hv.1 hv.2 hv.1 hv.2 .nil;exact⟨by have:=(upper a a).1; omega,.inl this.2⟩
   | @one v m hl =>
    intro hv;have:=h.le a v m h0 h1 hv.1 hv.2 (.one hl);exact⟨by have:=(upper a v).1; omega,.inl this.2⟩
   | @step w v d m _ g0 g1 g2 ih =>
    intro hv;have hwr:=(hS.inr _ g2).1;dsimp only at hwr;obtain⟨i1,i2⟩:=ih hwr;have hone:=h.le w v m hwr.1 hwr.2 hv.1 hv.2 (.one g2)
    by_cases hwk:w=k
    ·subst hwk;rw[colk a h0 h1] at i1
     have hak:f a k≠ķ:=by
      rcases i2 with i2|i2
      ·exact i2
      ·exact i2.1
     have:=(upper a v).2 hak hone.2;exact⟨by omega,.inr ⟨hak,hone.2⟩⟩
    ·have hlt:w<k:=by push_cast at g1; omega
     -- one link ë of a walk by nodes below k
     have ext:∀x:Int,0≤x→x<N→f x w≠ķ→f x v≤f x w+m∧f x v≠ķ:=fun x hx0 hx1 hf =>
      h.le x v _ hx0 hx1 hv.1 hv.2 ((h.att x w hx0 hx1 hwr.1 hwr.2 hf).step hwr.1 hlt g2)
     rcases cases3 a w with e|⟨e1,e2,e⟩
     ·have hne:f a w≠ķ:=by
       rcases i2 with i2|⟨i2,i3⟩
       ·exact i2
       ·intro hF;rw[hF] at e;exact ne a w h0 h1 hwr.1 hwr.2 (.inr ⟨i2,i3⟩) e
      have:=ext a h0 h1 hne;exact⟨by have:=(upper a v).1; omega,.inl this.2⟩
     ·have:=ext k hk0.1 hk0.2 e2;have:=(upper a v).2 e1 this.2;exact⟨by omega,.inr ⟨e1,(ext k hk0.1 hk0.2 e2).2⟩⟩
  obtain⟨m1,m2⟩:=main hw ⟨h2,h3⟩;exact⟨m1,ne a b h0 h1 h2 h3 m2⟩
 ·have:=(upper a a).1;have:=h.diag a h0 h1;omega
def wi_pot {p:Int→Int} (hp:Pot L p) {v d:Int} (h:WI L k u v d):p v≤p u+d:=by
 induction h with
 |nil=>omega
 |one h=>exact hp _ _ _ h
 |step _ _ _ h2 ih=>have:=hp _ _ _ h2; omega
def fw_all (hS:ĩ L N):(∃k:Nat,k<N∧Tab L N k (fw L k)∧(∃a:Int,0≤a∧a<N∧fw L (k+1) a a<0)∧∀j,j≤k→Tab L N j (fw L j))∨∀k:Nat,k≤N→Tab L N k (fw L k):=by
 have:∀k:Nat,k≤N→(∃j:Nat,j<k∧Tab L N j (fw L j)∧(∃a:Int,0≤a∧a<N∧fw L (j+1) a a<0)∧∀i,i≤j→Tab L N i (fw L i))∨∀i,i≤k→Tab L N i (fw L i):=by
  intro k
  induction k with
  |zero=>exact fun _=>.inr fun i hi=>by have h0:i=0:=(by omega); subst h0; exact aku hS
  |succ k ih =>
   intro hk;rcases ih (by omega) with⟨j,h1,h2⟩|h
   ·exact .inl ⟨j,by omega,h2⟩
   ·have hT:=h k (cH _);obtain⟨s1,s2,s3⟩:=aea hS (by omega) hT
    by_cases hb:∃a:Int,0≤a∧a<N∧fw L (k+1) a a<0
    ·exact .inl ⟨k,by omega,hT,hb,h⟩
    ·refine .inr fun i hi=>?_;rcases Nat.lt_or_eq_of_le hi with hi|rfl
     ·exact h i (by omega)
     ·refine⟨s1,s2,fun a h0 h1=>?_⟩;have:=s3 a h0 h1;rcases gj (fw L (k+1) a a) 0 with q|q
      ·exact absurd ⟨a,h0,h1,q⟩ hb
      ·have e:fw L (k+1) a a=upF (fw L k) k a a:=rfl;omega
 rcases this N (cH _) with⟨j,h1,h2⟩|h
 ·exact .inl ⟨j,h1,h2⟩
 ·exact .inr h
def alg (hS:ĩ L N) {j:Nat} (hj:j<N) (hT:Tab L N j (fw L j)) (hb:∃a:Int,0≤a∧a<N∧fw L (j+1) a a<0):ġ L N=false:=by
 have hn:=hS.n60;obtain⟨a,h0,h1,h2⟩:=hb;rw[Bool.eq_false_iff];intro ho;obtain⟨p,hp⟩:=(ĭ hS.links (by omega)).1 ho;obtain⟨s1,_,_⟩:=aea hS hj hT;have e:fw L (j+1) a a=upF (fw L j) j a a:=rfl;rw[e] at h2;have:=wi_pot hp (s1 a a h0 h1 h0 h1 (by unfold ķ; omega));omega
def aiG (hS:ĩ L N) (hT:Tab L N N (fw L N)):ġ L N=true:=by
 cases ho:ġ L N with
 |true=>rfl
 |false =>
  obtain⟨n,v,d,_,_,h3,h4,h5⟩:=TE hS ho;have:=hT.closed v d h3.1 h3.2 (.of_wk hS.inr (dE _) h4);omega
def fw_dst (hS:ĩ L N) (ht:Ax L N) (hT:Tab L N N (fw L N)) {a b:Int} (ha:0≤a∧a<N) (hb:0≤b∧b<N):fw L N a b=dst L N a b:=by
 have ho:=aiG hS hT;obtain⟨vs,hw⟩:=alq hS ht ho ha hb;obtain⟨h1,h2⟩:=hT.le a b _ ha.1 ha.2 hb.1 hb.2 (.of_wl hS.inr (dE _) hw);obtain⟨vs',hw'⟩:=(hT.att a b ha.1 ha.2 hb.1 hb.2 h2).wl;have:=anl hS ho ha hw';omega
end
section
variable {ρ:Type} {L:List Lk} {N:Nat}
def aks (hN:N≤60) {u:Int} (hu:0≤u∧u<N) (K:List Int→Option ρ) :
 Ñ (fun(v7:Int×List Int) kk10=>kG (N:Int) u v7.1 v7.2 (fun u8 u9=>kk10 (u8,u9)) K) ((0:Int),List.replicate N (0:Int))=K (QX N (adk u)):=by
 refine ð (List.replicate N ()) (fun i=>QX N fun b=>if b<i then adk u b else 0) _ ?_ (fun i a hi ha kn=>?_) (fun kn=>?_)
 ·unfold QX;refine List.ext_getElem? fun j=>?_;rw[List.getElem?_map,List.getElem?_replicate]
  by_cases hj:j<N
  ·rw[eW hj,if_pos hj];simp only[dJ];rw[if_neg (by omega)]
  ·rw[fB (by simpa using hj),if_neg hj];rfl
 ·try dsimp only
  unfold kG;rw[List.length_replicate] at hi;have e0:ķ=(1152921504606846976:Int):=rfl;rw[Ö (decide_eq_true (by omega)),nJ,ħ (by omega) (by omega),md _ (by omega) (by omega),ab0 _ (by omega)]
  by_cases h:u=(i:Int)
  ·rw[Ö (beq_iff_eq.2 h),nJ,ħ (by omega) (by omega),md _ (by omega) (by omega),Õ (by omega) (by omega),ab0 _ (by omega)];congr 1;refine UR fun v h0 h1=>?_
   by_cases hv:v=(i:Int)
   ·rw[if_pos hv,if_pos (by push_cast; omega)]; unfold adk; rw[if_pos (by omega)]
   ·rw[if_neg hv,if_neg hv]
    by_cases h2:v<(i:Int)
    ·rw[if_pos h2,if_pos (by push_cast; omega)]
    ·rw[if_neg h2,if_neg (by push_cast; omega)]
  ·rw[Ò (beq_eq_false_iff_ne.2 h),Õ (by omega) (by omega)];congr 1;refine UR fun v h0 h1=>?_
   by_cases hv:v=(i:Int)
   ·rw[if_pos hv,if_pos (by push_cast; omega)]; unfold adk; rw[if_neg (by omega),e0]
   ·rw[if_neg hv]
    by_cases h2:v<(i:Int)
    ·rw[if_pos h2,if_pos (by push_cast; omega)]
    ·rw[if_neg h2,if_neg (by push_cast; omega)]
 ·try dsimp only
  unfold kG;rw[List.length_replicate,Ò (decide_eq_false (by omega))];congr 1;exact UR fun v h0 h1=>if_pos h1
def akt (hN:N≤60) (K:List (List Int)→Option ρ) :
 Ñ (fun(v74:Int×List (List Int)) kk77=>kH (N:Int) v74.1 v74.2 (fun u75 u76=>kk77 (u75,u76)) K) ((0:Int),[])=K (AA N adk):=by
 refine ð (List.replicate N ()) (fun i=>(List.range i).map fun(u:Nat)=>QX N (adk u)) _ rfl (fun i a hi ha kn=>?_) (fun kn=>?_)
 ·try dsimp only
  unfold kH;rw[List.length_replicate] at hi;rw[Ö (decide_eq_true (by omega)),Ė (by simp[ç]; omega),Int.toNat_natCast];refine(aks hN ⟨by omega,by omega⟩ _).trans ?_;rw[Ė (Ô (by simp only[List.length_map,List.length_range,List.length_singleton]; omega)),Õ (by omega) (by omega)];congr 2;rw[List.range_succ,List.map_append];rfl
 ·try dsimp only
  unfold kH;rw[List.length_replicate,Ò (decide_eq_false (by omega))];rfl
def akr (hS:ĩ L N) (K:List (List Int)→Option ρ) :
 Ñ (fun(v70:Int×List (List Int)) kk73=>kF L v70.1 v70.2 (fun u71 u72=>kk73 (u71,u72)) K) ((0:Int),AA N adk)=K (AA N (fw L 0)):=by
 have hl3:=hS.len;refine ð L (fun i=>AA N ((L.take i).foldl lkF adk)) _ rfl (fun i l hi hl kn=>?_) (fun kn=>?_)
 ·try dsimp only
  unfold kF;have hr:=hS.inr l (List.mem_of_getElem? hl);obtain⟨⟨a0,a1⟩,b0,b1⟩:=hr;rw[Ó hi,Ë hl];simp only[tK,ħ a0 a1,pS _ a0 a1,nJ,ħ b0 b1,md _ b0 b1];rw[Î hi (by omega),ahq _ a0 b0,take_succ hl,List.foldl_append];congr 2;refine qT fun u v _ _ _ _=>?_;simp only[List.foldl_cons,List.foldl_nil,lkF,yK]
 ·try dsimp only
  unfold kF;rw[à,List.take_length];rfl
def akq (hS:ĩ L N) {k:Nat} (hk:k<N) {f:Int→Int→Int} (hT:Tab L N k f) {u:Int} (hu:0≤u∧u<N) (hne:f u k≠ķ) {g:Int→Int→Int} (hgk:∀b:Int,0≤b→b<N→g k b=f k b) (hgu:∀b:Int,0≤b→b<N→g u b=f u b) (K:List (List Int)→Option ρ) :
 Ñ (fun(v45:Int×List (List Int)) kk48=>kD (k:Int) u (N:Int) v45.1 v45.2 (fun u46 u47=>kk48 (u46,u47)) K) ((0:Int),AA N g)=K (AA N fun a b=>if a=u then upF f k a b else g a b):=by
 have hn:=hS.n60
 have hk0:(0:Int)≤k∧(k:Int)<N:=by omega
 have hdk:=hT.diag k hk0.1 hk0.2;have e0:ķ=(1152921504606846976:Int):=rfl
 have rowk:∀b:Int,upF f k k b=f k b:=fun b=>by
  unfold upF;rw[hdk];rw[if_neg (by decide)]
  split
  ·rfl
  ·omega
 have colk:upF f k u k=f u k:=by
  unfold upF;rw[if_neg hne,hdk,if_neg (by decide)];omega
 refine ð (List.replicate N ()) (fun i=>AA N fun a b=>if a=u∧b<i then upF f k a b else g a b) _ ?_ (fun i a hi ha kn=>?_) (fun kn=>?_)
 ·exact qT fun a b _ _ hb _=>if_neg (by omega)
 ·try dsimp only
  unfold kD;rw[List.length_replicate] at hi
  have hi0:(0:Int)≤i∧(i:Int)<N:=by omega
  -- what lies in row k, and in row u at k
  have r1:(if (k:Int)=u∧(i:Int)<i then upF f k k i else g k i)=f k i:=by rw[if_neg (by omega)]; exact hgk i hi0.1 hi0.2
  have r2:(if u=u∧(i:Int)<i then upF f k u i else g u i)=f u i:=by rw[if_neg (by omega)]; exact hgu i hi0.1 hi0.2
  have r3:(if u=u∧(k:Int)<i then upF f k u k else g u k)=f u k:=by
   split
   ·exact colk
   ·exact hgu k hk0.1 hk0.2
  have step:∀x:Int,(fun(a b:Int)=>if a=u∧b=(i:Int) then x else if a=u∧b<(i:Int) then upF f k a b else g a b)=fun a b=>if a=u∧b<((i+1:Nat):Int) then(if b=(i:Int) then x else upF f k a b) else g a b:=fun x=>by
   funext a b
   by_cases h1:a=u
   ·by_cases h2:b=(i:Int)
    ·rw[if_pos ⟨h1,h2⟩,if_pos ⟨h1,by push_cast; omega⟩,if_pos h2]
    ·by_cases h3:b<(i:Int)
     ·rw[if_neg (fun h=>h2 h.2),if_pos ⟨h1,h3⟩,if_pos ⟨h1,by push_cast; omega⟩,if_neg h2]
     ·rw[if_neg (fun h=>h2 h.2),if_neg (fun h=>h3 h.2),if_neg (fun h=>by have:=h.2; push_cast at this; omega)]
   ·rw[if_neg (fun h=>h1 h.1),if_neg (fun h=>h1 h.1),if_neg (fun h=>h1 h.1)]
  rw[Ö (decide_eq_true hi0.2)];simp only[-eq_self,tK,ħ hk0.1 hk0.2,pS _ hk0.1 hk0.2,nJ,ħ hi0.1 hi0.2,md _ hi0.1 hi0.2,r1]
  by_cases h2:f k i=ķ
  ·rw[Ò (by rw[h2]; rfl),Õ (by omega) (by omega)];congr 2;refine qT fun a b ha _ hb _=>?_
   by_cases h3:a=u∧b<(i:Int)
   ·rw[if_pos h3,if_pos ⟨h3.1,by push_cast; omega⟩]
   ·rw[if_neg h3]
    by_cases h4:a=u∧b=(i:Int)
    ·rw[if_pos ⟨h4.1,by push_cast; omega⟩,h4.1,h4.2];unfold upF;rw[if_neg hne,if_pos h2];exact hgu i hi0.1 hi0.2
    ·rw[if_neg (fun h=>by have:=h.2; push_cast at this; omega)]
  ·have b1:=hT.bd hS hu hk0 hne;have b2:=hT.bd hS hk0 hi0 h2;rw[Ö (bne_iff_ne.2 h2)];simp only[-eq_self,tK,ħ hu.1 hu.2,pS _ hu.1 hu.2,nJ,ħ hi0.1 hi0.2,md _ hi0.1 hi0.2,ħ hk0.1 hk0.2,md _ hk0.1 hk0.2,pS _ hk0.1 hk0.2,r1,r2,r3];rw[Õ (by omega) (by omega)]
   try simp only[-eq_self,tK,ħ hu.1 hu.2,pS _ hu.1 hu.2,nJ,ħ hi0.1 hi0.2,md _ hi0.1 hi0.2]
   rw[Õ (by omega) (by omega),ahq _ hu.1 hi0.1,step];congr 2;refine qT fun a b ha _ hb _=>?_
   by_cases h3:a=u∧b<((i+1:Nat):Int)
   ·rw[if_pos h3,if_pos h3]
    by_cases h4:b=(i:Int)
    ·rw[if_pos h4,h3.1,h4,yK];unfold upF;rw[if_neg hne,if_neg h2]
    ·rw[if_neg h4]
   ·rw[if_neg h3,if_neg h3]
 ·try dsimp only
  unfold kD;rw[List.length_replicate,Ò (decide_eq_false (by omega))];congr 1;refine qT fun a b _ _ _ hb=>?_
  by_cases h:a=u
  ·rw[if_pos ⟨h,hb⟩,if_pos h]
  ·rw[if_neg (fun q=>h q.1),if_neg h]
def ad9 (hS:ĩ L N) {k:Nat} (hk:k<N) {f:Int→Int→Int} (hT:Tab L N k f) (K:List (List Int)→Option ρ) :
 Ñ (fun(v60:Int×List (List Int)) kk63=>kE (k:Int) (N:Int) v60.1 v60.2 (fun u61 u62=>kk63 (u61,u62)) K) ((0:Int),AA N f)=K (AA N (upF f k)):=by
 have hn:=hS.n60
 have hk0:(0:Int)≤k∧(k:Int)<N:=by omega
 have hdk:=hT.diag k hk0.1 hk0.2
 have rowk:∀b:Int,upF f k k b=f k b:=fun b=>by
  unfold upF;rw[hdk];rw[if_neg (by decide)]
  split
  ·rfl
  ·omega
 refine ð (List.replicate N ()) (fun i=>AA N fun a b=>if a<i then upF f k a b else f a b) _ ?_ (fun i a hi ha kn=>?_) (fun kn=>?_)
 ·exact qT fun a b ha _ _ _=>if_neg (by omega)
 ·try dsimp only
  unfold kE;rw[List.length_replicate] at hi
  have hi0:(0:Int)≤i∧(i:Int)<N:=by omega
  have r1:(if (i:Int)<i then upF f k i k else f i k)=f i k:=if_neg (by omega);rw[Ö (decide_eq_true hi0.2)];simp only[tK,ħ hi0.1 hi0.2,pS _ hi0.1 hi0.2,nJ,ħ hk0.1 hk0.2,md _ hk0.1 hk0.2,r1]
  by_cases h1:f i k=ķ
  ·rw[Ö (beq_iff_eq.2 h1),Õ (by omega) (by omega)];congr 2;refine qT fun a b ha _ hb _=>?_
   by_cases h2:a<(i:Int)
   ·rw[if_pos h2,if_pos (by push_cast; omega)]
   ·rw[if_neg h2]
    by_cases h3:a=(i:Int)
    ·rw[if_pos (by push_cast; omega),h3];unfold upF;rw[if_pos h1]
    ·rw[if_neg (by push_cast; omega)]
  ·rw[Ò (beq_eq_false_iff_ne.2 h1)];refine(akq hS hk hT hi0 h1 (fun b _ _=>?_) (fun b _ _=>if_neg (by omega)) _).trans ?_
   ·split
    ·exact rowk b
    ·rfl
   ·rw[Õ (by omega) (by omega)];congr 2;refine qT fun a b ha _ hb _=>?_
    by_cases h3:a=(i:Int)
    ·rw[if_pos h3,if_pos (by push_cast; omega)]
    ·rw[if_neg h3]
     by_cases h2:a<(i:Int)
     ·rw[if_pos h2,if_pos (by push_cast; omega)]
     ·rw[if_neg h2,if_neg (by push_cast; omega)]
 ·try dsimp only
  unfold kE;rw[List.length_replicate,Ò (decide_eq_false (by omega))];congr 1;exact qT fun a b _ ha _ _=>if_pos ha
def akp (hN:N≤60) (f:Int→Int→Int) (X Y:Option ρ) :
 Ñ (fun(v57:Int) kk59=>gZ (N:Int) (AA N f) v57 (fun u58=>kk59 u58) (fun _=>X) (fun _=>Y)) (0:Int)=if ((List.range N).any fun(a:Nat)=>decide (f a a<0)) then X else Y:=by
 refine į (List.range N) (fun a=>decide (f a a<0)) (fun _=>X) X Y (fun _=>rfl) (fun i a hi ha kn=>?_) (fun kn=>?_)
 ·try dsimp only
  unfold gZ;rw[List.length_range] at hi
  have hia:a=i:=by rw[eW hi] at ha; exact(Option.some.inj ha).symm
  subst hia
  have hi0:(0:Int)≤a∧(a:Int)<N:=by omega
  rw[Ö (decide_eq_true hi0.2)];simp only[tK,ħ hi0.1 hi0.2,pS _ hi0.1 hi0.2,nJ,md _ hi0.1 hi0.2];rw[Õ (by omega) (by omega),Ğ]
 ·try dsimp only
  unfold gZ;rw[List.length_range,Ò (decide_eq_false (by omega))]
def al0 (hS:ĩ L N) (ht:Ax L N):td ((N:Int),L)=some (if ġ L N then(AA N (dst L N),true) else([],false)):=by
 have hn:=hS.n60;unfold td H4;dsimp only;refine(akt hn _).trans ?_;refine(akr hS _).trans ?_
 have anyOf:∀k:Nat,((List.range N).any fun(a:Nat)=>decide (fw L k a a<0))=true↔∃a:Int,0≤a∧a<N∧fw L k a a<0:=fun k=>by
  rw[eO];constructor
  ·rintro⟨a,h1,h2⟩;have:=List.mem_range.1 h1;exact⟨a,by omega,by omega,of_decide_eq_true h2⟩
  ·rintro⟨a,h0,h1,h2⟩;exact⟨a.toNat,List.mem_range.2 (by omega),decide_eq_true (by rw[show((a.toNat:Nat):Int)=a by omega]; exact h2)⟩
 rcases fw_all hS with⟨j,hj,hT,hb,hall⟩|hall
 ·rw[alg hS hj hT hb,if_neg (by simp)];refine Ņ (fun v=>∃k:Nat,k≤j∧v=((k:Int),AA N (fw L k))∧Tab L N k (fw L k)) (fun v=>N-v.1.toNat) ?_ ⟨0,by omega,rfl,hall 0 (by omega)⟩;rintro v ⟨k,hkj,rfl,hTk⟩;dsimp only
  have hL6:∀kn:Int×List (List Int)→Option (List (List Int)×Bool),i9 (N:Int) (k:Int) (AA N (fw L k)) (fun u67 u68=>kn (u67,u68)) (fun z64=>some (([]:List (List Int)),z64.1)) (fun z65=>some (z65,true))=if ((List.range N).any fun(a:Nat)=>decide (fw L (k+1) a a<0)) then some ([],false) else kn ((k:Int)+1,AA N (fw L (k+1))):=fun kn=>by
   unfold i9;rw[Ö (decide_eq_true (by omega))];refine(ad9 hS (by omega) hTk _).trans ?_;have:=akp hn (upF (fw L k) k) (some (([]:List (List Int)),false)) (ck ((k:Int)+1) fun n56=>kn (n56,AA N (upF (fw L k) k)));rw[Õ (by omega) (by omega)] at this;refine Eq.trans ?_ this;rw[Õ (by omega) (by omega)];congr 1
  rcases Nat.lt_or_eq_of_le hkj with hlt|rfl
  ·refine .inr ⟨(((k+1:Nat):Int),AA N (fw L (k+1))),⟨k+1,hlt,rfl,hall (k+1) hlt⟩,by dsimp only; omega,fun kn=>?_⟩;have hd:=hall (k+1) hlt;rw[hL6 kn,if_neg]
   ·push_cast; rfl
   ·intro h;obtain⟨a,h0,h1,h2⟩:=(anyOf (k+1)).1 h;rw[hd.diag a h0 h1] at h2;omega
  ·refine .inl fun kn=>?_;rw[hL6 kn,if_pos ((anyOf (k+1)).2 hb)]
 ·have hT:=hall N (Nat.le_refl _);rw[aiG hS hT,if_pos rfl];refine Ņ (fun v=>∃k:Nat,k≤N∧v=((k:Int),AA N (fw L k))) (fun v=>N-v.1.toNat) ?_ ⟨0,by omega,rfl⟩;rintro v ⟨k,hkj,rfl⟩;dsimp only;rcases Nat.lt_or_eq_of_le hkj with hlt|rfl
  ·have hd:=hall (k+1) hlt;refine .inr ⟨(((k+1:Nat):Int),AA N (fw L (k+1))),⟨k+1,hlt,rfl⟩,by dsimp only; omega,fun kn=>?_⟩;unfold i9;rw[Ö (decide_eq_true (by omega))];refine(ad9 hS hlt (hall k hkj) _).trans ?_;refine Ņ (fun v=>∃a:Nat,a≤N∧v=(a:Int)) (fun v=>N-v.toNat) ?_ ⟨0,by omega,rfl⟩;rintro v ⟨a,ha,rfl⟩;rcases Nat.lt_or_eq_of_le ha with hl|rfl
   ·have ha0:(0:Int)≤a∧(a:Int)<N:=by omega
    refine .inr ⟨((a+1:Nat):Int),⟨a+1,hl,rfl⟩,by omega,fun kn'=>?_⟩;unfold gZ;have hda:upF (fw L k) k a a=0:=hd.diag a ha0.1 ha0.2;rw[Ö (decide_eq_true ha0.2)];simp only[tK,ħ ha0.1 ha0.2,pS _ ha0.1 ha0.2,nJ,md _ ha0.1 ha0.2,hda];rw[Ò (by rfl),Õ (by omega) (by omega)];push_cast;rfl
   ·refine .inl fun kn'=>?_;unfold gZ;rw[Ò (decide_eq_false (by omega)),Õ (by omega) (by omega)];push_cast;rfl
  ·refine .inl fun kn=>?_;unfold i9;rw[Ò (decide_eq_false (by omega))];refine congrArg _ (congrArg (·,true) ?_);exact qT fun a b h0 h1 h2 h3=>fw_dst hS ht hT ⟨h0,h1⟩ ⟨h2,h3⟩
end
def zh (n lo hi:Int):kQ n lo hi=some (inP n lo hi):=by
 unfold kQ acr inP ige ile
 cases h:decide (lo≤n)<;>simp_all
def XW (n:Int):vn n=some (Hr n):=by
 unfold vn VO;rw[zh]; rfl
def vG (s:Int×Int) (lo hi:Int):iU s lo hi=some (jp s lo hi):=by
 unfold iU xb jp ile
 cases decide (lo≤s.1)<;>cases decide (s.1≤s.2)<;>rfl
def anF {l:List Int} (hn:l.length≤1000000) (x:Int):MC l x=some (l.contains x):=by
 unfold MC VL;refine Eq.trans (į l (fun a=>a==x) (fun _=>some true) (some true) (some false) (fun _=>rfl) (fun i a hi ha kn=>?_) (fun kn=>?_)) ?_
 ·try dsimp only
  unfold tY;rw[Ó hi,Ë ha,Î hi (by omega),Ğ]
 ·try dsimp only
  unfold tY;rw[à]
 ·have:l.any (fun a=>a==x)=l.contains x:=by
   rw[dH,eO,d8];constructor
   ·rintro⟨a,ha,e⟩; rw[←eq_of_beq e]; exact ha
   ·intro h; exact⟨x,h,by simp⟩
  rw[this]
  cases l.contains x<;>rfl
def aga {a b:List Int} {i:Nat} {x:Int} (h:a[i]?=some x):å (a.take (i+1)) b=å (a.take i) b++if b.contains x then[] else[x]:=by
 rw[take_succ h,å,å,gn];congr 1
 cases hx:b.contains x<;>simp only[dL,hx,dY,gq,dg,if_false,if_true,dR]
def XV {a b:List Int} (ha:a.length≤1000000) (hb:b.length≤1000000):jy a b=some (å a b):=by
 unfold jy N5;refine ð a (fun i=>å (a.take i) b) _ rfl (fun i x hi hx kn=>?_) (fun kn=>?_)
 ·try dsimp only
  unfold qf
  have hl:(å (a.take i) b).length≤1000000:=by
   have:=yI (a.take i) b;rw[cY] at this;omega
  rw[Ó hi,Ë hx,anF hb,À,aga hx]
  cases b.contains x with
  |true=>rw[Ò (by rfl),Î hi (by omega)]; simp
  |false=>rw[Ö (by rfl),Ë hx,Ô (by simp only[dl]; omega),Am.iff_true,Î hi (by omega)]; simp
 ·try dsimp only
  unfold qf;rw[à,List.take_length]
def K7 (a b:List Int):Int:=(å a b).head?.getD 0
def Jw {a b:List Int} (ha:a.length≤1000000) (hb:b.length≤1000000):od a b=some (K7 a b):=by
 unfold od Vr K7;rw[XV ha hb,À,æ]
 cases h:å a b with
 |nil=>rfl
 |cons x t =>
  rw[Ò (by simp[ieq]; omega)];exact Ë (i:=0) rfl _
def MJ {b:Ü} (hn:b.2.1.length≤1000000) (id:Int):pq b id=some (match b.2.1.findIdx? (fun g=>g.1==id) with|some j=>(j:Int)|none=>-1):=by
 unfold pq Oa;refine Eq.trans (gI b.2.1 (fun g=>g.1==id) (fun z=>some z) (some (-1)) (fun i a hi ha kn=>?_) (fun kn=>?_)) ?_
 ·try dsimp only
  unfold qg;rw[Ó hi,Ë ha,Î hi (by omega),Ğ]
 ·try dsimp only
  unfold qg;rw[à]
 ·cases List.findIdx? (fun g:é=>g.1==id) b.2.1<;>rfl
def zH {b:Ü} {id:Int}:(∃j g,b.2.1.findIdx? (fun g=>g.1==id)=some j∧b.2.1[j]?=some g∧Ŧ b id=some g)∨(b.2.1.findIdx? (fun g=>g.1==id)=none∧Ŧ b id=none):=by
 unfold Ŧ;rw[Xp]
 cases h:b.2.1.findIdx? (fun g=>g.1==id) with
 |none=>exact .inr ⟨rfl,rfl⟩
 |some j =>
  obtain⟨hj,_,_⟩:=dG.1 h;exact .inl ⟨j,_,rfl,cG hj,cG hj⟩
def η (b:Ü) (id day:Int):Int:=match Ŧ b id with|some g=>if day<g.2.1 then 4 else 0|none=>5
def Hk {b:Ü} (hn:b.2.1.length≤1000000) (id day:Int):lY b id day=some (η b id day):=by
 unfold lY HU η;rw[MJ hn,À];rcases zH (b:=b) (id:=id) with⟨j,g,h1,h2,h3⟩|⟨h1,h2⟩
 ·rw[h1,h3]
  try dsimp only
  rw[Ò (by simp[ilt]),Ë h2,Ğ]
  by_cases hd:day<g.2.1
  ·rw[if_pos (by simpa[ilt] using hd),if_pos hd]
  ·rw[if_neg (by simpa[ilt] using hd),if_neg hd]
 ·rw[h1,h2];rfl
def Ca {b:Ü} (hi:b.2.1.Pairwise fun a b=>a.1<b.1) (id day:Int):η b id day=mw (gU b) id day:=by
 unfold η mw;rw[zr hi]
 cases Ŧ b id<;>rfl
def afu {b:Ü} (hn:b.2.2.2.1.length≤1000000) (id day:Int):yO b id day=some (match kX b id day with|some l=>(l,true)|none=>((0,(0,0),0),false)):=by
 unfold yO N3;refine aie b.2.2.2.1 (fun _=>((0:Int),(0:Int),(0:Int),(0:Int))) _ (fun i=>∀l∈b.2.2.2.1.take i,(l.1==id&&inP day l.2.1.1 l.2.1.2)=false) rfl (by simp) (fun i a hi ha hP kn=>?_) (fun hP kn=>?_)
 ·try dsimp only
  unfold qe;rw[Ó hi,Ë ha]
  by_cases hm:(a.1==id&&inP day a.2.1.1 a.2.1.2)=true
  ·refine .inl ?_;have hm2:=hm;simp only[inP,cI,beq_iff_eq,decide_eq_true_eq] at hm2;rw[Ö (by simp[ieq,hm2.1]),Ö (by simp[ile,hm2.2.1]),Ö (by simp[ile,hm2.2.2])]
   have hf:kX b id day=some a:=by
    unfold kX;obtain⟨hi',rfl⟩:=List.getElem?_eq_some_iff.1 ha;rw[List.find?_eq_some_iff_getElem];refine⟨hm,i,hi',rfl,fun j hj=>?_⟩;have:=hP b.2.2.2.1[j] (List.mem_iff_getElem.2 ⟨j,by rw[List.length_take]; omega,by rw[List.getElem_take]⟩);simp[this]
   rw[hf]
  ·refine .inr ⟨fun l hl=>?_,?_⟩
   ·rw[take_succ ha,cN,cR] at hl;rcases hl with hl|rfl
    ·exact hP l hl
    ·simpa using hm
   ·have hm2:=hm;simp only[inP,cI,beq_iff_eq,decide_eq_true_eq] at hm2
    by_cases h1:a.1=id
    ·by_cases h2:a.2.1.1≤day
     ·rw[Ö (by simp[ieq,h1]),Ö (by simp[ile,h2]),Ò (by simp[ile]; exact Int.lt_of_not_ge fun h3=>hm2 ⟨h1,h2,h3⟩),Î hi (by omega)]
     ·rw[Ö (by simp[ieq,h1]),Ò (by simp[ile]; omega),Î hi (by omega)]
    ·rw[Ò (by simp[ieq,h1]),Î hi (by omega)]
 ·try dsimp only
  unfold qe;rw[à]
  have:kX b id day=none:=by
   unfold kX;rw[List.find?_eq_none];intro l hl;have:=hP l (by rw[List.take_length]; exact hl);simp[this]
  rw[this]
def al7 {b:Ü} (hn:b.2.2.1.length≤1000000) (id day:Int):GJ b id day=some (KY b id day):=by
 unfold GJ NP;refine Eq.trans (į b.2.2.1 (fun u=>u.1==id&&u.2==day) (fun _=>some true) (some true) (some false) (fun _=>rfl) (fun i a hi ha kn=>?_) (fun kn=>?_)) ?_
 ·try dsimp only
  unfold pY;rw[Ó hi,Ë ha,Ë ha,Î hi (by omega)]
  cases h1:(a.1==id) with
  |false=>have:ieq a.1 id=false:=h1; simp[this]
  |true =>
   have:ieq a.1 id=true:=h1;rw[this]
   cases h2:(a.2==day) with
   |false=>have:ieq a.2 day=false:=h2; simp[this]
   |true=>have:ieq a.2 day=true:=h2; simp[this]
 ·try dsimp only
  unfold pY;rw[à]
 ·unfold KY
  cases b.2.2.1.any _<;>rfl
def aj1 (a b:Nat):zP a b=some ((Nat.gcd a b:Nat):Int):=by
 unfold zP V0;refine Ņ (fun x:Int×Int=>∃c d:Nat,x=((c:Int),(d:Int))∧Nat.gcd c d=Nat.gcd a b) (fun x=>x.2.toNat) ?_ ⟨a,b,rfl,rfl⟩;rintro x ⟨c,d,rfl,hg⟩
 cases d with
 |zero =>
  refine .inl fun kn=>?_;rw[Nat.gcd_zero_right] at hg;unfold t7;simp[hg,ine]
 |succ d =>
  refine .inr ⟨(((d+1:Nat):Int),((c % (d+1):Nat):Int)),⟨d+1,c % (d+1),rfl,?_⟩,?_,fun kn=>?_⟩
  ·rw[←hg,gD c (d+1),Nat.gcd_rec (d+1) c,gD]
  ·have:=gp c (gk d);simp only[di];omega
  ·unfold t7
   have h1:ine ((d+1:Nat):Int) 0=true:=by simp[ine]; omega
   have h2:ł ((d+1:Nat):Int) 0=false:=by simp[ł]; omega
   simp only[h1,Ö Ò h2];congr 1
def aj3 {n:Int} (h : -9223372036854775807≤n∧n≤9223372036854775807):GN n=some (n.natAbs:Int):=by
 unfold GN V4
 by_cases hn:n<0
 ·rw[Ö (by simpa[ilt] using hn),Õ (by omega) (by omega)];congr 1;omega
 ·rw[Ò (by simpa[ilt] using hn)];congr 1;omega
def ajW (r:Int×Int):zN r=some (JG r):=by
 unfold zN H6 JG
 by_cases h1:1≤r.2
 ·rw[Ò (by simp[ilt]; omega)]
  by_cases h2:r.2≤2147483647
  ·rw[Ò (by simp[igt]; omega)]
   by_cases h3:r.1 < -2147483647
   ·rw[Ö (by simp[ilt]; omega)]
    have:¬((r.1.natAbs:Int)≤2147483647):=by omega
    simp[this]
   ·rw[Ò (by simp[ilt]; omega)]
    by_cases h4:2147483647<r.1
    ·rw[Ö (by simp[igt]; omega)]
     have:¬((r.1.natAbs:Int)≤2147483647):=by omega
     simp[this]
    ·rw[Ò (by simp[igt]; omega),aj3 ⟨by omega,by omega⟩,À]
     have h5:r.2=((r.2.natAbs:Nat):Int):=by omega
     have h6:((r.1.natAbs:Int)≤2147483647):=by omega
     rw[h5,aj1,À,←h5];congr 1;rw[dH];simp only[ieq,beq_iff_eq,h1,h2,h6,decide_true,dO,decide_eq_true_eq];omega
  ·rw[Ö (by simp[igt]; omega)];simp[h2]
 ·rw[Ö (by simp[ilt]; omega)];simp[h1]
def ajU (g:é):zL g=some (pm g):=by
 unfold zL HS pm;rw[ajW,zh,zh,XW,zh,vG,zh];simp only[À]
 have e:igt g.2.2.2.2.1.2 100=!decide (g.2.2.2.2.1.2≤100):=by
  rw[dH]; simp[igt]
 rw[e]
 cases JG g.2.2.2.2.1<;>cases inP g.2.2.2.2.1.1 (-1000) 1000<;>cases decide (g.2.2.2.2.1.2≤100)<;>cases inP g.1 1 1099511627776<;>cases Hr g.2.1<;>cases inP g.2.2.1 1 1125899906842624<;>cases jp g.2.2.2.1 (-1073741824) 1073741824<;>rfl
def acd {l:List Int}:∀(m:List Int) (j:Nat) (x:Bool),Ī (ww l) j m=some x→x=false:=by
 intro m
 induction m with
 |nil=>intro j x h; cases h
 |cons a m ih =>
  intro j x h;unfold Ī at h
  cases hp:ww l j a with
  |none=>rw[hp] at h; exact ih _ _ h
  |some y =>
   rw[hp] at h;cases h;unfold ww at hp
   split at hp
   ·cases hp; rfl
   ·split at hp
    ·cases hp; rfl
    ·cases hp
def aft {l:List Int} (hn:l.length≤1000000):yN l=some (la l):=by
 unfold yN NU;refine Eq.trans (j6 l (ww l) some (some (decide (l.length≤6))) (fun i a hi ha kn=>?_) (fun kn=>?_)) ?_
 ·try dsimp only
  unfold pZ;rw[Ó hi,Ë ha,zh,À];unfold ww
  cases inP a 1 1099511627776 with
  |false=>rfl
  |true =>
   simp only[dY,î,dg,if_false];rcases fh i with h0|h0
   ·subst h0
    have:igt ((0:Nat):Int) 0=false:=by simp[igt]
    rw[Ò this,Î hi (by omega)];simp[Ds]
   ·obtain⟨q,hq⟩:=DH hi h0
    have h1:igt (i:Int) 0=true:=by simp[igt]; omega
    rw[Ö h1,Ë ha,Qt h0 (by omega),Gx h0 hq];simp only[Ds,h0,decide_true,Bool.true_and,hq,Option.any_some];unfold ile
    cases h2:decide (a≤q) with
    |true=>rfl
    |false =>
     rw[î,Î hi (by omega)];rfl
 ·try dsimp only
  unfold pZ;rw[à,æ];simp[ile];omega
 ·unfold la
  cases h:Ī (ww l) 0 l with
  |none=>rfl
  |some x=>rw[acd _ _ _ h]
def ajS {c:Cmp} (hA:c.2.2.1.length≤1000000) (hB:c.2.2.2.1.length≤1000000):zJ c=some (K8 c):=by
 unfold zJ HO K8;rw[aft hA,aft hB,zh,XW,zh,zh,vG];simp only[À]
 cases la c.2.2.1<;>cases la c.2.2.2.1<;>cases inP c.1 1 1099511627776<;>cases Hr c.2.1<;>cases inP c.2.2.2.2.1 (-1125899906842624) 1125899906842624<;>cases inP c.2.2.2.2.2.1 0 1073741824<;>cases jp c.2.2.2.2.2.2 (-10000) 10000<;>rfl
def X5 (b:Ü) (u:Int×Int):Int:=if !Hr u.2 then 1 else η b u.1 u.2
def ad3 {b:Ü} (hi:b.2.1.Pairwise fun a b=>a.1<b.1) (u:Int×Int):X5 b u=afB (gU b) u.1 u.2:=by
 unfold X5 afB;rw[Ca hi]
def aeZ (e:Int):Option Int:=if e=0 then none else some e
def Jc {α:Type} (E:Nat→α→Int):∀(k:Nat) (l:List α),Ī (fun i a=>aeZ (E i a)) k l=(l.mapIdx fun i a=>E (i+k) a).find? (fun e=>e != 0)
 |_,[]=>rfl
 |k,a::t=>by
  unfold Ī;rw[Jc E (k+1) t,List.mapIdx_cons,List.find?_cons];unfold aeZ
  by_cases h:E k a=0
  ·simp only[h,if_true,df];have:((0:Int) != 0)=false:=rfl;rw[this]
   have e:(fun(i:Nat) (a:α)=>E (i+(k+1)) a)=fun i a=>E (i+1+k) a:=by
    funext i a;congr 1;omega
   rw[e]
  ·simp only[h,if_false,df]
   have:(E k a != 0)=true:=by simpa using h
   rw[this]
def P9 {α:Type} (E:Nat→α→Int) (l:List α):Ī (fun i a=>aeZ (E i a)) 0 l=(l.mapIdx E).find? (fun e=>e != 0):=Jc E 0 l
def Qa {α:Type} (E:α→Int) (l:List α):Ī (fun _ a=>aeZ (E a)) 0 l=(l.map E).find? (fun e=>e != 0):=by
 rw[Jc (fun _ a=>E a) 0 l];congr 1
 exact List.ext_getElem (by simp) fun i h1 h2=>by simp
def al2 {b:Ü} (hs:ŷ b):GH b=some (((b.2.2.1.map (X5 b)).find? (fun e=>e != 0)).getD 0):=by
 have h1:=hs.gauges;have h2:=hs.uses;unfold GH NF;refine Eq.trans (j6 b.2.2.1 (fun _ u=>aeZ (X5 b u)) some (some 0) (fun i a hi ha kn=>?_) (fun kn=>?_)) ?_
 ·try dsimp only
  unfold pT;rw[Ó hi,Ë ha,XW,À];unfold X5 aeZ
  cases Hr a.2 with
  |false=>rfl
  |true =>
   rw[Ò (by rfl),Ë ha,Ë ha,Hk (b:=((b.1.1,b.1.2),b.2.1,b.2.2.1,b.2.2.2.1,b.2.2.2.2.1,b.2.2.2.2.2)) (by simp only; omega),À,Î hi (by omega)];have e:η ((b.1.1,b.1.2),b.2.1,b.2.2.1,b.2.2.2.1,b.2.2.2.2.1,b.2.2.2.2.2) a.1 a.2=η b a.1 a.2:=rfl;rw[e]
   by_cases hz:η b a.1 a.2=0
   ·rw[Ò (by simp[ine,hz])]; simp[hz]
   ·rw[Ö (by simp[ine,hz])]; simp[hz]
 ·try dsimp only
  unfold pT;rw[à]
 ·rw[Qa]
  cases List.find? (fun e=>e != 0) (b.2.2.1.map (X5 b))<;>rfl
def SP (b:Ü) (i:Nat) (l:KV):Int :=
 if !jp l.2.1 0 20000 then 1 else if !inP l.2.2 0 1048576 then 1 else if η b l.1 l.2.1.1 != 0 then η b l.1 l.2.1.1 else
 if (b.2.2.2.1.take i).any (fun x=>x.1==l.1&&(decide (x.2.1.1≤l.2.1.2)&&decide (l.2.1.1≤x.2.1.2))) then 9 else
 if b.2.2.1.any (fun u=>u.1==l.1&&inP u.2 l.2.1.1 l.2.1.2) then 9 else 0
def ail {b:Ü} (hi:b.2.1.Pairwise fun a b=>a.1<b.1) (i:Nat) (l:KV):SP b i l=SQ b (gU b) i l:=by
 unfold SP SQ;rw[Ca hi]
def ajT {b:Ü} (hs:ŷ b):zK b=some (((b.2.2.2.1.mapIdx (SP b)).find? (fun e=>e != 0)).getD 0):=by
 have h1:=hs.gauges;have h2:=hs.uses;have h3:=hs.loans;unfold zK HP;refine Eq.trans (j6 b.2.2.2.1 (fun i l=>aeZ (SP b i l)) some (some 0) (fun i l hi hl kn=>?_) (fun kn=>?_)) ?_
 ·try dsimp only
  unfold nP;rw[Ó hi,Ë hl,vG,À];unfold SP aeZ
  cases jp l.2.1 0 20000 with
  |false=>rfl
  |true =>
  rw[Ò (by rfl),zh,À]
  cases inP l.2.2 0 1048576 with
  |false=>rfl
  |true =>
  rw[Ò (by rfl),Hk (b:=((b.1.1,b.1.2),b.2.1,b.2.2.1,b.2.2.2.1,b.2.2.2.2.1,b.2.2.2.2.2)) (by simp only; omega),À];have e:η ((b.1.1,b.1.2),b.2.1,b.2.2.1,b.2.2.2.1,b.2.2.2.2.1,b.2.2.2.2.2) l.1 l.2.1.1=η b l.1 l.2.1.1:=rfl;rw[e]
  by_cases hz:η b l.1 l.2.1.1=0
  ·rw[Ò (by simp[ine,hz])]
   have hl9:(b.2.2.2.1.take i).length=i:=by rw[cY]; omega
   have inner:Ñ (fun(v21:Int) kk23=>ky b.2.2.1 l.1 l.2.1.1 l.2.1.2 v21 (fun u22=>kk23 u22) (fun z18=>(some z18:Option Int)) (fun _=>ck ((i:Int)+(1:Int)) fun n20=>kn n20)) (0:Int)=if b.2.2.1.any (fun u=>u.1==l.1&&inP u.2 l.2.1.1 l.2.1.2) then some 9 else kn ((i:Int)+1):=by
    refine į b.2.2.1 _ (fun _=>some 9) (some 9) (kn ((i:Int)+1)) (fun _=>rfl) (fun j a hj ha kn'=>?_) (fun kn'=>?_)
    ·try dsimp only
     unfold ky;rw[Ó hj,Ë ha,Ë ha,zh,À,Î hj (by omega)]
     cases hq:(a.1==l.1) with
     |false=>have:ieq a.1 l.1=false:=hq; simp[this]
     |true =>
      have:ieq a.1 l.1=true:=hq;rw[this]
      cases inP a.2 l.2.1.1 l.2.1.2<;>simp
    ·try dsimp only
     unfold ky;rw[à];dsimp only;rw[Î hi (by omega)]
   try dsimp only
   rw[inner];refine eI (į (b.2.2.2.1.take i) (fun x=>x.1==l.1&&(decide (x.2.1.1≤l.2.1.2)&&decide (l.2.1.1≤x.2.1.2))) (fun _=>some 9) (some 9) (if b.2.2.1.any (fun u=>u.1==l.1&&inP u.2 l.2.1.1 l.2.1.2) then some 9 else kn ((i:Int)+1)) (fun _=>rfl) (fun j a hj ha kn'=>?_) (fun kn'=>?_)) ?_
   ·try dsimp only
    unfold nO;rw[hl9] at hj
    have ha':b.2.2.2.1[j]?=some a:=by rwa [List.getElem?_take_of_lt hj] at ha
    rw[Ö (show ilt (j:Int) (i:Int)=true by simp[ilt]; omega),Ë ha',Ë ha',Ë ha',Î hj (by omega)]
    cases hq:(a.1==l.1) with
    |false=>have:ieq a.1 l.1=false:=hq; simp[this]
    |true =>
     have:ieq a.1 l.1=true:=hq;rw[this]
     cases h5:decide (a.2.1.1≤l.2.1.2)<;>cases h6:decide (l.2.1.1≤a.2.1.2)<;>simp[ile,h5,h6,Ğ]<;>simp_all
   ·try dsimp only
    unfold nO;rw[hl9,Ò (show ilt (i:Int) (i:Int)=false by simp[ilt])]
   ·simp only[hz]
    cases List.any (b.2.2.2.1.take i) _<;>cases b.2.2.1.any _<;>rfl
  ·rw[Ö (by simp[ine,hz])]; simp[hz]
 ·try dsimp only
  unfold nP;rw[à]
 ·rw[P9 (SP b)]
  cases(b.2.2.2.1.mapIdx (SP b)).find? (fun e=>e != 0)<;>rfl
def AE (b:Ü) (c:Cmp):Int :=
 if (c.2.2.1++c.2.2.2.1).any (fun id=>η b id c.2.1==5) then 5 else
 if (c.2.2.1++c.2.2.2.1).any (fun id=>η b id c.2.1 != 0) then 4 else
 if (c.2.2.1++c.2.2.2.1).any (fun id=>(kX b id c.2.1).isSome) then 9 else
 if 1<(å c.2.2.1 c.2.2.2.1).length then 1 else if 1<(å c.2.2.2.1 c.2.2.1).length then 1 else
 if (å c.2.2.1 c.2.2.2.1).length+(å c.2.2.2.1 c.2.2.1).length=0 then 1 else 0
def akK {b:Ü} (hi:b.2.1.Pairwise fun a b=>a.1<b.1) (c:Cmp):AE b c=AF b (gU b) c:=by
 unfold AE AF;simp only[Ca hi]
 by_cases h5:(c.2.2.1++c.2.2.2.1).any (fun id=>mw (gU b) id c.2.1==5)=true
 ·rw[if_pos h5,if_pos h5]
 ·rw[if_neg h5,if_neg h5]
  have e:(c.2.2.1++c.2.2.2.1).any (fun id=>mw (gU b) id c.2.1 != 0)=(c.2.2.1++c.2.2.2.1).any (fun id=>mw (gU b) id c.2.1==4):=by
   rw[dH,eO,eO];constructor
   ·rintro⟨x,hx,h⟩;refine⟨x,hx,?_⟩;rcases Nz (gU b) x c.2.1 with h1|h1|h1
    ·rw[h1] at h; cases h
    ·rw[h1]; rfl
    ·exact absurd (eO.2 ⟨x,hx,by rw[h1]; rfl⟩) h5
   ·rintro⟨x,hx,h⟩;refine⟨x,hx,?_⟩;rw[eq_of_beq h]; rfl
  rw[e]
def abX {b:Ü} {id d:Int}:(η b id d==5)=(b.2.1.findIdx? (fun g=>g.1==id)).isNone:=by
 unfold η;rcases zH (b:=b) (id:=id) with⟨j,g,h1,h2,h3⟩|⟨h1,h2⟩
 ·rw[h1,h3]
  try dsimp only
  split<;>rfl
 ·rw[h1,h2]; rfl
set_option maxHeartbeats 1000000 in
def abB {b:Ü} (hs:ŷ b) {c:Cmp} (hA:c.2.2.1.length≤1000) (hB:c.2.2.2.1.length≤1000):jg b c=some (AE b c):=by
 have h1:=hs.gauges;have h3:=hs.loans;unfold jg tU AE;rw[Ô (by omega),Am.iff_true,List.nil_append,Ô (by omega),Am.iff_true]
 have hl:(c.2.2.1++c.2.2.2.1).length≤2000:=by rw[cJ]; omega
 generalize hP:c.2.2.1++c.2.2.2.1=P at hl
 have hol:∀{i:Nat},i<P.length→((ile (0:Int) (i:Int))&&(ilt (i:Int) (č P)))=true:=fun {i} hi=>by simp[ile,ilt,č]; omega
 have third:Ñ (fun(v19:Int) kk21=>Β b.1.1 b.1.2 b.2.1 b.2.2.1 b.2.2.2.1 b.2.2.2.2.1 b.2.2.2.2.2 c.2.1 P v19 (fun u20=>kk21 u20) (fun z14=>some z14) (fun _=>Ã (jy c.2.2.1 c.2.2.2.1) fun r16=>Ã (jy c.2.2.2.1 c.2.2.1) fun r17=>ifb (igt (Ý r16) (1:Int)) (some (1:Int)) (ifb (igt (Ý r17) (1:Int)) (some (1:Int)) (ck ((Ý r16)+(Ý r17)) fun n18=>ifb (ieq n18 (0:Int)) (some (1:Int)) (some (0:Int)))))) (0:Int) =
  some (if P.any (fun id=>(kX b id c.2.1).isSome) then 9 else if 1<(å c.2.2.1 c.2.2.2.1).length then 1 else if 1<(å c.2.2.2.1 c.2.2.1).length then 1 else if (å c.2.2.1 c.2.2.2.1).length+(å c.2.2.2.1 c.2.2.1).length=0 then 1 else 0):=by
  refine eI (į P (fun id=>(kX b id c.2.1).isSome) (fun _=>some 9) (some 9) (some (if 1<(å c.2.2.1 c.2.2.2.1).length then 1 else if 1<(å c.2.2.2.1 c.2.2.1).length then 1 else if (å c.2.2.1 c.2.2.2.1).length+(å c.2.2.2.1 c.2.2.1).length=0 then 1 else 0)) (fun _=>rfl) (fun i a hi ha kn=>?_) (fun kn=>?_)) ?_
  ·try dsimp only
   unfold Β;rw[Ó hi,Ė (hol hi),ĥ ha,afu (b:=((b.1.1,b.1.2),b.2.1,b.2.2.1,b.2.2.2.1,b.2.2.2.2.1,b.2.2.2.2.2)) (by simp only; omega),À,Î hi (by omega)];have e:kX ((b.1.1,b.1.2),b.2.1,b.2.2.1,b.2.2.2.1,b.2.2.2.2.1,b.2.2.2.2.2) a c.2.1=kX b a c.2.1:=rfl;rw[e]
   cases kX b a c.2.1<;>rfl
  ·try dsimp only
   unfold Β;rw[à];dsimp only;have l1:=yI c.2.2.1 c.2.2.2.1;have l2:=yI c.2.2.2.1 c.2.2.1;rw[XV (by omega) (by omega),À,XV (by omega) (by omega),À];simp only[æ]
   by_cases q1:1<(å c.2.2.1 c.2.2.2.1).length
   ·rw[Ö (by simp[igt]; omega),if_pos q1]
   ·rw[Ò (by simp[igt]; omega),if_neg q1]
    by_cases q2:1<(å c.2.2.2.1 c.2.2.1).length
    ·rw[Ö (by simp[igt]; omega),if_pos q2]
    ·rw[Ò (by simp[igt]; omega),if_neg q2,Õ (by omega) (by omega)]
     by_cases q3:(å c.2.2.1 c.2.2.2.1).length+(å c.2.2.2.1 c.2.2.1).length=0
     ·rw[Ö (by simp[ieq]; omega),if_pos q3]
     ·rw[Ò (by simp[ieq]; omega),if_neg q3]
  ·cases P.any _<;>rfl
 have second:Ñ (fun(v22:Int) kk24=>iv b.1.1 b.1.2 b.2.1 b.2.2.1 b.2.2.2.1 b.2.2.2.2.1 b.2.2.2.2.2 c.2.1 P v22 (fun u23=>kk24 u23) (fun z9=>some z9) (fun _=>Ñ (fun(v19:Int) kk21=>Β b.1.1 b.1.2 b.2.1 b.2.2.1 b.2.2.2.1 b.2.2.2.2.1 b.2.2.2.2.2 c.2.1 P v19 (fun u20=>kk21 u20) (fun z14=>some z14) (fun _=>Ã (jy c.2.2.1 c.2.2.2.1) fun r16=>Ã (jy c.2.2.2.1 c.2.2.1) fun r17=>ifb (igt (Ý r16) (1:Int)) (some (1:Int)) (ifb (igt (Ý r17) (1:Int)) (some (1:Int)) (ck ((Ý r16)+(Ý r17)) fun n18=>ifb (ieq n18 (0:Int)) (some (1:Int)) (some (0:Int)))))) (0:Int))) (0:Int) =
  some (if P.any (fun id=>η b id c.2.1 != 0) then 4 else if P.any (fun id=>(kX b id c.2.1).isSome) then 9 else if 1<(å c.2.2.1 c.2.2.2.1).length then 1 else if 1<(å c.2.2.2.1 c.2.2.1).length then 1 else if (å c.2.2.1 c.2.2.2.1).length+(å c.2.2.2.1 c.2.2.1).length=0 then 1 else 0):=by
  rw[third];refine eI (į P (fun id=>η b id c.2.1 != 0) (fun _=>some 4) (some 4) (some (if P.any (fun id=>(kX b id c.2.1).isSome) then 9 else if 1<(å c.2.2.1 c.2.2.2.1).length then 1 else if 1<(å c.2.2.2.1 c.2.2.1).length then 1 else if (å c.2.2.1 c.2.2.2.1).length+(å c.2.2.2.1 c.2.2.1).length=0 then 1 else 0)) (fun _=>rfl) (fun i a hi ha kn=>?_) (fun kn=>?_)) ?_
  ·try dsimp only
   unfold iv;rw[Ó hi,Ė (hol hi),ĥ ha,Hk (b:=((b.1.1,b.1.2),b.2.1,b.2.2.1,b.2.2.2.1,b.2.2.2.2.1,b.2.2.2.2.2)) (by simp only; omega),À,Î hi (by omega)];have e:η ((b.1.1,b.1.2),b.2.1,b.2.2.1,b.2.2.2.1,b.2.2.2.2.1,b.2.2.2.2.2) a c.2.1=η b a c.2.1:=rfl;rw[e,Ğ]
  ·try dsimp only
   unfold iv;rw[à]
  ·cases P.any (fun id=>η b id c.2.1 != 0)<;>rfl
 rw[second];refine eI (į P (fun id=>η b id c.2.1==5) (fun _=>some 5) (some 5) (some (if P.any (fun id=>η b id c.2.1 != 0) then 4 else if P.any (fun id=>(kX b id c.2.1).isSome) then 9 else if 1<(å c.2.2.1 c.2.2.2.1).length then 1 else if 1<(å c.2.2.2.1 c.2.2.1).length then 1 else if (å c.2.2.1 c.2.2.2.1).length+(å c.2.2.2.1 c.2.2.1).length=0 then 1 else 0)) (fun _=>rfl) (fun i a hi ha kn=>?_) (fun kn=>?_)) ?_
 ·try dsimp only
  unfold jF;rw[Ó hi,Ė (hol hi),ĥ ha,MJ (b:=((b.1.1,b.1.2),b.2.1,b.2.2.1,b.2.2.2.1,b.2.2.2.2.1,b.2.2.2.2.2)) (by simp only; omega),À,Î hi (by omega),abX]
  try dsimp only
  cases List.findIdx? (fun g:é=>g.1==a) b.2.1 with
  |none=>rfl
  |some j =>
   have:ilt (j:Int) 0=false:=by simp[ilt]
   rw[Ò this]; rfl
 ·try dsimp only
  unfold jF;rw[à]
 ·cases P.any (fun id=>η b id c.2.1==5)<;>rfl
structure Pre (b:Ü):Prop where
 size:ŷ b
 gauge:∀g∈b.2.1,pm g=true
 cmp:∀c∈b.2.2.2.2.1,Hr c.2.1=true∧(å c.2.2.1 c.2.2.2.1).length≤1∧(å c.2.2.2.1 c.2.2.1).length≤1
 look:∀n∈b.2.2.2.2.2,Hr n.2=true
def Y8 {c:Cmp} (h:K8 c=true):Hr c.2.1=true:=by
 have:=((Κ c).1 h).2.1;simp[Hr,inP,this.1,this.2]
def đ.pre {b:Ü} (h:đ b):Pre b :=
 ⟨h.size,h.gauge,fun c hc=>⟨Y8 (h.nums hc),(h.lefts hc).1,(h.lefts hc).2.1⟩,fun n hn=>(by have:=(X6 h (h.looks n hn)).1; simp[Hr,inP,this.1,this.2])⟩
def Vb {a b:List Int} (h:(å a b).length≤1) {id:Int} (h0:id≠0):K7 a b=id↔id∈a∧id∉b:=by
 rw[←jw];unfold K7
 cases hl:å a b with
 |nil =>
  simp only[List.head?_nil,gx,fI,iff_false];exact fun e=>h0 e.symm
 |cons x t =>
  have:t=[]:=by
   rw[hl] at h;simp only[cW] at h;exact dc.1 (by omega)
  subst this;simp only[List.head?_cons,fe,cR];exact eq_comm
def L8 (b:Ü) (g:é) (d:Int):Bool :=
 g.2.1==d||b.2.2.2.2.1.any (fun c=>c.2.1==d&&(K7 c.2.2.1 c.2.2.2.1==g.1||K7 c.2.2.2.1 c.2.2.1==g.1))||b.2.2.2.2.2.any (fun n=>n.1==g.1&&n.2==d)
def al6 {b:Ü} (hs:ŷ b) (g:é) (d:Int):GI b g d=some (L8 b g d):=by
 have h1:=hs.compares;have h2:=hs.looks;unfold GI NM L8
 cases hm:(g.2.1==d) with
 |true =>
  have:ieq g.2.1 d=true:=hm;rw[Ö this];simp
 |false =>
  have:ieq g.2.1 d=false:=hm;rw[Ò this]
  have inner:Ñ (fun(v14:Int) kk16=>mH d b.2.2.2.2.2 g.1 v14 (fun u15=>kk16 u15) (fun z12=>some z12) (fun _=>some false)) (0:Int)=some (b.2.2.2.2.2.any (fun n=>n.1==g.1&&n.2==d)):=by
   refine eI (į b.2.2.2.2.2 (fun n=>n.1==g.1&&n.2==d) (fun _=>some true) (some true) (some false) (fun _=>rfl) (fun i a hi ha kn=>?_) (fun kn=>?_)) ?_
   ·try dsimp only
    unfold mH;rw[Ó hi,Ë ha,Ë ha,Î hi (by omega)]
    cases h1:(a.1==g.1) with
    |false=>have:ieq a.1 g.1=false:=h1; simp[this]
    |true =>
     have:ieq a.1 g.1=true:=h1;rw[this]
     cases h2:(a.2==d) with
     |false=>have:ieq a.2 d=false:=h2; simp[this]
     |true=>have:ieq a.2 d=true:=h2; simp[this]
   ·try dsimp only
    unfold mH;rw[à]
   ·cases b.2.2.2.2.2.any _<;>rfl
  rw[inner];refine eI (į b.2.2.2.2.1 (fun c=>c.2.1==d&&(K7 c.2.2.1 c.2.2.2.1==g.1||K7 c.2.2.2.1 c.2.2.1==g.1)) (fun _=>some true) (some true) (some (b.2.2.2.2.2.any (fun n=>n.1==g.1&&n.2==d))) (fun _=>rfl) (fun i a hi ha kn=>?_) (fun kn=>?_)) ?_
  ·have hp:=hs.piles a (cO ha)
   try dsimp only
   unfold pX;rw[Ó hi,Ë ha,Jw (by omega) (by omega),Jw (by omega) (by omega),Î hi (by omega)];simp only[À]
   cases h1:(a.2.1==d) with
   |false=>have:ieq a.2.1 d=false:=h1; simp[this]
   |true =>
    have:ieq a.2.1 d=true:=h1;rw[this]
    cases h2:(K7 a.2.2.1 a.2.2.2.1==g.1) with
    |true=>have:ieq (K7 a.2.2.1 a.2.2.2.1) g.1=true:=h2; simp[this]
    |false =>
     have:ieq (K7 a.2.2.1 a.2.2.2.1) g.1=false:=h2;rw[this]
     cases h3:(K7 a.2.2.2.1 a.2.2.1==g.1) with
     |true=>have:ieq (K7 a.2.2.2.1 a.2.2.1) g.1=true:=h3; simp[this]
     |false=>have:ieq (K7 a.2.2.2.1 a.2.2.1) g.1=false:=h3; simp[this]
  ·try dsimp only
   unfold pX;rw[à]
  ·cases b.2.2.2.2.1.any _<;>rfl
def ajM {b:Ü} (h:Pre b) {g:é} (hg:g∈b.2.1) {d:Int}:L8 b g d=true↔d∈Þ b g:=by
 have hid:g.1≠0:=by
  have:=((s7 g).1 (h.gauge g hg)).2.2.2.1;omega
 rw[jC];unfold L8;simp only[Bool.or_eq_true,List.any_eq_true,Bool.and_eq_true,beq_iff_eq,or_assoc];refine or_congr eq_comm (or_congr ?_ Iff.rfl);constructor
 ·rintro⟨c,hc,e,h1⟩;obtain⟨_,l1,l2⟩:=h.cmp c hc;refine⟨c,hc,?_,e⟩;rw[Vb l1 hid,Vb l2 hid] at h1;intro he;rw[dH,d8,d8] at he;rcases h1 with⟨x,y⟩|⟨x,y⟩
  ·exact y (he.1 x)
  ·exact y (he.2 x)
 ·rintro⟨c,hc,h1,e⟩;obtain⟨_,l1,l2⟩:=h.cmp c hc;refine⟨c,hc,e,?_⟩;rw[Vb l1 hid,Vb l2 hid]
  by_cases ha:g.1∈c.2.2.1
  ·by_cases hb:g.1∈c.2.2.2.1
   ·exact absurd (by rw[dH,d8,d8]; exact⟨fun _=>hb,fun _=>ha⟩) h1
   ·exact .inl ⟨ha,hb⟩
  ·by_cases hb:g.1∈c.2.2.2.1
   ·exact .inr ⟨hb,ha⟩
   ·exact absurd (by rw[dH,d8,d8]; exact⟨fun x=>absurd x ha,fun x=>absurd x hb⟩) h1
def nx (v:Int) (D:List Int):Int:=D.foldl (fun m d=>if v<d then min m d else m) 20001
def ahU (v:Int) (D:List Int) (d:Int):nx v (D++[d])=if v<d then min (nx v D) d else nx v D:=by
 unfold nx;rw[List.foldl_append];rfl
def Vc (v:Int):∀D:List Int,nx v D≤20001∧(∀d∈D,v<d→nx v D≤d)∧(nx v D=20001∨(nx v D∈D∧v<nx v D)):=by
 suffices H:∀(n:Nat) (D:List Int),D.length=n→nx v D≤20001∧(∀d∈D,v<d→nx v D≤d)∧(nx v D=20001∨(nx v D∈D∧v<nx v D)) from fun D=>H _ D rfl
 intro n
 induction n with
 |zero =>
  intro D hD;rw[dc.1 hD];exact⟨dE _,by simp,.inl rfl⟩
 |succ n ih =>
  intro D' hD'
  obtain⟨D,d,rfl⟩:∃D d,D'=D++[d]:=by
   rcases List.eq_nil_or_concat D' with rfl|⟨L,b,rfl⟩
   ·simp at hD'
   ·exact⟨L,b,by simp⟩
  obtain⟨h1,h2,h3⟩:=ih D (by simpa using hD');rw[ahU]
  by_cases hd:v<d
  ·rw[if_pos hd];refine⟨by omega,fun x hx hv=>?_,?_⟩
   ·rcases cN.1 hx with hx|hx
    ·have:=h2 x hx hv; omega
    ·rw[cR] at hx; omega
   ·rcases Int.le_total (nx v D) d with h|h
    ·rw[Int.min_eq_left h];rcases h3 with h3|h3
     ·exact .inl h3
     ·exact .inr ⟨by simp[h3.1],h3.2⟩
    ·rw[Int.min_eq_right h];exact .inr ⟨by simp,hd⟩
  ·rw[if_neg hd];refine⟨h1,fun x hx hv=>?_,?_⟩
   ·rcases cN.1 hx with hx|hx
    ·exact h2 x hx hv
    ·rw[cR] at hx; omega
   ·rcases h3 with h3|h3
    ·exact .inl h3
    ·exact .inr ⟨by simp[h3.1],h3.2⟩
def amZ {D:List Int} (hD:D.length≤1000000) (v:Int) (K:Int→Option (List (Int×Int))) :
 Ñ (fun(v18:Int×Int) kk21=>kz v D v18.1 v18.2 (fun u19 u20=>kk21 (u19,u20)) K) ((20001:Int),(0:Int))=K (nx v D):=by
 refine Ņ (fun x:Int×Int=>∃k:Nat,k≤D.length∧x=(nx v (D.take k),(k:Int))) (fun x=>D.length-x.2.toNat) ?_ ⟨0,by omega,rfl⟩;rintro x ⟨k,hk,rfl⟩;rcases dv k D.length with hlt|hge
 ·refine .inr ⟨(nx v (D.take (k+1)),((k+1:Nat):Int)),⟨k+1,hlt,rfl⟩,by simp only[Int.toNat_natCast]; omega,fun kn=>?_⟩;have ha:D[k]?=some D[k]:=List.getElem?_eq_getElem hlt;unfold kz;have ho:č D=((D.length:Nat):Int):=rfl;rw[Ó hlt,ho,gK hlt,ĥ ha,take_succ ha,ahU]
  by_cases h:v<D[k]
  ·rw[Ö (by simpa[igt] using h),gK hlt,ĥ ha,Î hlt (by omega),if_pos h,yK];simp
  ·rw[Ò (by simpa[igt] using h),Î hlt (by omega),if_neg h];simp
 ·have:k=D.length:=by omega
  subst this;refine .inl fun kn=>?_;unfold kz;rw[à,List.take_length]
def agR (b:Ü) (g:é) (D:List Int) (v:Int):List Int:=(Yn D).filter fun d=>decide (v<d)&&L8 b g d
def QL {b:Ü} {g:é} {D:List Int} (hD:∀d∈D,d≤20000) (v:Int):agR b g D v=if nx v D<20001 then(if L8 b g (nx v D) then nx v D::agR b g D (nx v D) else agR b g D (nx v D)) else[]:=by
 obtain⟨h1,h2,h3⟩:=Vc v D;refine adO ((Cc D).sublist List.filter_sublist) ?_ fun x=>?_
 ·split
  ·split
   ·rw[dA];refine⟨fun a ha=>?_,(Cc D).sublist List.filter_sublist⟩;have:=(fj.1 ha).2;simp at this;omega
   ·exact(Cc D).sublist List.filter_sublist
  ·exact List.Pairwise.nil
 ·have hm:∀v x,x∈agR b g D v↔x∈D∧v<x∧L8 b g x=true:=by
   intro v x;unfold agR;rw[List.mem_filter,pN];simp
  rw[hm]
  split
  ·rename_i hlt
   have h4:nx v D∈D∧v<nx v D:=by
    rcases h3 with h3|h3
    ·omega
    ·exact h3
   split
   ·rename_i ha;rw[cQ,hm];constructor
    ·rintro⟨a,c,e⟩;have:=h2 x a c;rcases Int.lt_or_eq_of_le this with h|h
     ·exact .inr ⟨a,h,e⟩
     ·exact .inl h.symm
    ·rintro(rfl|⟨a,c,e⟩)
     ·exact⟨h4.1,h4.2,ha⟩
     ·exact⟨a,by omega,e⟩
   ·rename_i ha;rw[hm];constructor
    ·rintro⟨a,c,e⟩;have:=h2 x a c;rcases Int.lt_or_eq_of_le this with h|h
     ·exact⟨a,h,e⟩
     ·rw[←h] at e; exact absurd e ha
    ·rintro⟨a,c,e⟩;exact⟨a,by omega,e⟩
  ·rename_i hge;constructor
   ·rintro⟨a,c,e⟩;have:=h2 x a c;have:=hD x a;omega
   ·intro h; cases h
def alX {b:Ü} {g:é} {D:List Int} (v:Int):(agR b g D v).length≤D.length :=
 dt (dz _ _) (DB D)
set_option maxHeartbeats 1000000 in
def alu {b:Ü} (hs:ŷ b) {i:Nat} {g:é} (hg:b.2.1[i]?=some g) {D:List Int} (hl:D.length≤1000000) (hD:∀d∈D,d≤20000) {out:List (Int×Int)} (ho:out.length+D.length≤1000000000) (K:List (Int×Int)→Option (List (Int×Int))) :
 Ñ (fun(v24:Int×List (Int×Int)) kk27=>kB (i:Int) b.1.1 b.1.2 b.2.1 b.2.2.1 b.2.2.2.1 b.2.2.2.2.1 b.2.2.2.2.2 D v24.1 v24.2 (fun u25 u26=>kk27 (u25,u26)) K) ((-1:Int),out)=K (out++(agR b g D (-1)).map fun d=>((g.1,d):Int×Int)):=by
 refine Ņ (fun x:Int×List (Int×Int)=>x.2++(agR b g D x.1).map (fun d=>((g.1,d):Int×Int))=out++(agR b g D (-1)).map fun d=>((g.1,d):Int×Int)) (fun x=>(20001-x.1).toNat) ?_ rfl;rintro⟨v,o⟩ hI;simp only at hI
 by_cases hv:v<20001
 ·obtain⟨h1,h2,h3⟩:=Vc v D
  have hlt:v<nx v D:=by
   rcases h3 with h3|h3
   ·omega
   ·exact h3.2
  refine .inr ⟨(nx v D,if nx v D<20001∧L8 b g (nx v D)=true then o++[(g.1,nx v D)] else o),?_,by simp only; omega,fun kn=>?_⟩
  ·rw[←hI];simp only;rw[QL hD v]
   by_cases ha:nx v D<20001
   ·rw[if_pos ha]
    cases hq:L8 b g (nx v D) with
    |true=>rw[if_pos ⟨ha,rfl⟩,if_pos rfl]; simp
    |false=>rw[if_neg (by simp),if_neg (by simp)]
   ·rw[if_neg (by omega),if_neg ha]
    have:agR b g D (nx v D)=[]:=by
     have e:=QL (b:=b) (g:=g) hD (nx v D);rw[e,if_neg];obtain⟨g1,g2,g3⟩:=Vc (nx v D) D;rcases g3 with g3|g3
     ·omega
     ·have:=hD _ g3.1; omega
    rw[this]
  ·unfold kB;rw[Ö (by simpa[ilt] using hv)];refine Eq.trans (amZ hl v _) ?_;dsimp only
   by_cases ha:nx v D<20001
   ·rw[Ö (by simpa[ilt] using ha),Ë hg,al6 (b:=((b.1.1,b.1.2),b.2.1,b.2.2.1,b.2.2.2.1,b.2.2.2.2.1,b.2.2.2.2.2)) ⟨hs.gauges,hs.uses,hs.loans,hs.compares,hs.looks,hs.piles⟩,À];have e:L8 ((b.1.1,b.1.2),b.2.1,b.2.2.1,b.2.2.2.1,b.2.2.2.2.1,b.2.2.2.2.2) g (nx v D)=L8 b g (nx v D):=rfl;rw[e]
    cases hq:L8 b g (nx v D) with
    |true =>
     have hol:o.length≤1000000000:=by
      have:=congrArg List.length hI;simp only[cJ,dT] at this;have:=alX (b:=b) (g:=g) (D:=D) (-1);omega
     rw[Ö rfl,Ë hg,Ô (by simp only[dl]; omega),Am.iff_true,if_pos ⟨ha,rfl⟩]
    |false=>rw[Ò rfl,if_neg (by simp)]
   ·rw[Ò (by simpa[ilt] using ha),if_neg (by omega)]
 ·refine .inl fun kn=>?_;unfold kB;rw[Ò (by simpa[ilt] using hv)]
  have:agR b g D v=[]:=by
   rw[QL hD,if_neg];obtain⟨g1,g2,g3⟩:=Vc v D;rcases g3 with g3|g3
   ·omega
   ·have:=hD _ g3.1; omega
  rw[this] at hI;simp only[eZ,dF] at hI;rw[hI]
def ze (b:Ü):List Int:=b.2.1.map (fun g=>g.2.1)++b.2.2.2.2.1.map (fun c=>c.2.1)++b.2.2.2.2.2.map fun n=>n.2
def adP {b:Ü} (hs:ŷ b):(ze b).length≤3000:=by
 have h1:=hs.gauges; have h2:=hs.compares; have h3:=hs.looks;simp only[ze,cJ,dT];omega
def Pre.days {b:Ü} (h:Pre b):∀d∈ze b,0≤d∧d≤20000:=by
 intro d hd;simp only[ze,cN,dQ] at hd;rcases hd with(⟨g,hg,rfl⟩|⟨c,hc,rfl⟩)|⟨n,hn,rfl⟩
 ·have:=((s7 g).1 (h.gauge g hg)).2.2.2.2.1;omega
 ·have:=(h.cmp c hc).1;simp only[Hr,inP,cI,decide_eq_true_eq] at this;exact this
 ·have:=h.look n hn;simp only[Hr,inP,cI,decide_eq_true_eq] at this;exact this
def ajN {b:Ü} (h:Pre b) {g:é} (hg:g∈b.2.1):agR b g (ze b) (-1)=Þ b g:=by
 refine adO ((Cc _).sublist List.filter_sublist) (vA b g) fun x=>?_;unfold agR;rw[List.mem_filter,pN,Bool.and_eq_true,ajM h hg,decide_eq_true_eq];constructor
 ·exact fun hx=>hx.2.2
 ·intro hx
  have hm:x∈ze b:=by
   simp only[ze,cN,dQ];rcases jC.1 hx with e|⟨c,hc,_,e⟩|⟨n,hn,_,e⟩
   ·exact .inl (.inl ⟨g,hg,e.symm⟩)
   ·exact .inl (.inr ⟨c,hc,e⟩)
   ·exact .inr ⟨n,hn,e⟩
  have:=h.days x hm;exact⟨hm,by omega,hx⟩
def Vj {α:Type} (f:α→Int) (l:List α) (s:List Int) (i:Nat) {a:α} (ha:l[i]?=some a):s++(l.take (i+1)).map f=(s++(l.take i).map f)++[f a]:=by
 rw[take_succ ha,gF,dh]; rfl
def Hl {b:Ü} (h:Pre b):jh b=some (Ê b):=by
 have h1:=h.size.gauges; have h2:=h.size.compares; have h3:=h.size.looks;have hl:=adP h.size;unfold jh HV;refine ð b.2.1 (fun i=>(b.2.1.take i).map (fun g=>g.2.1)) _ rfl (fun i a hi ha kn=>?_) (fun kn=>?_)
 ·try dsimp only
  unfold nT;have:=Vj (fun g:é=>g.2.1) b.2.1 [] i ha;simp only[List.nil_append] at this;rw[Ó hi,Ë ha,Ô (by simp only[List.length_map,List.length_take,List.length_singleton]; omega),Am.iff_true,Î hi (by omega),this]
 ·try dsimp only
  unfold nT;rw[à,List.take_length];dsimp only;refine ð b.2.2.2.2.1 (fun i=>b.2.1.map (fun g=>g.2.1)++(b.2.2.2.2.1.take i).map (fun c=>c.2.1)) _ (by simp) (fun i a hi ha kn=>?_) (fun kn=>?_)
  ·try dsimp only
   unfold nS;rw[Ó hi,Ë ha,Ô (by simp only[List.length_append,List.length_map,List.length_take,List.length_singleton]; omega),Am.iff_true,Î hi (by omega),Vj (fun c:Cmp=>c.2.1) b.2.2.2.2.1 _ i ha]
  ·try dsimp only
   unfold nS;rw[à,List.take_length];dsimp only;refine ð b.2.2.2.2.2 (fun i=>b.2.1.map (fun g=>g.2.1)++b.2.2.2.2.1.map (fun c=>c.2.1)++(b.2.2.2.2.2.take i).map (fun n=>n.2)) _ (by simp) (fun i a hi ha kn=>?_) (fun kn=>?_)
   ·try dsimp only
    unfold nR;rw[Ó hi,Ë ha,Ô (by simp only[List.length_append,List.length_map,List.length_take,List.length_singleton]; omega),Am.iff_true,Î hi (by omega),Vj (fun n:Int×Int=>n.2) b.2.2.2.2.2 _ i ha]
   ·try dsimp only
    unfold nR;rw[à,List.take_length];dsimp only;rw[show b.2.1.map (fun g=>g.2.1)++b.2.2.2.2.1.map (fun c=>c.2.1)++b.2.2.2.2.2.map (fun n=>n.2)=ze b from rfl];refine ð b.2.1 (fun i=>(b.2.1.take i).flatMap fun g=>(Þ b g).map fun d=>((g.1,d):Int×Int)) _ rfl (fun i g hi hg kn=>?_) (fun kn=>?_)
    ·try dsimp only
     unfold nQ;rw[Ó hi]
     have hlen:((b.2.1.take i).flatMap fun g=>(Þ b g).map fun d=>((g.1,d):Int×Int)).length≤2001000:=by
      have:=vh (fun g:é=>(Þ b g).map fun d=>((g.1,d):Int×Int)) 2001 (fun g=>by rw[dT]; exact G4 h.size g) (b.2.1.take i);rw[cY] at this;have:min i b.2.1.length*2001≤1000*2001:=du _ (by omega);omega
     refine eI (alu h.size hg (by omega) (fun d hd=>(h.days d hd).2) (by omega) _) ?_;rw[Î hi (by omega),ajN h (cO hg),take_succ hg,eG];simp
    ·try dsimp only
     unfold nQ;rw[à,List.take_length];rfl
def UH {n d:Int} (hd:0<d) (hn:n.natAbs≤2147483647) (hd2:d≤2147483647):pr n d=some (ng n d,0):=by
 obtain⟨g,h0,hg,h1,h2⟩:=zn (n:=n) hd;have hr:=(jE _).1 (UT hd hn hd2)
 have z:ł d 0=false:=by simp[ł]; omega
 have zg:ł (g:Int) 0=false:=by simp[ł]; omega
 unfold pr CH
 by_cases hn0:n=0
 ·subst hn0
  have e:ng 0 d=(0,1):=by
   unfold ng
   have:(Nat.gcd (0:Int).natAbs d.natAbs:Int)=d:=by simp; omega
   rw[this,Int.ediv_self (by omega)];simp
  rw[Ò (by rfl),Ò z,Õ (by simp) (by simp),Ò z,Int.tdiv_self (by omega),Õ (by omega) (by omega),Int.zero_tdiv,e];rfl
 ·rw[Ö (by simpa[ine] using hn0),Ò z];have a0:(Int.tmod n d).natAbs=n.natAbs % d.natAbs:=gE n d;have hlt:=gp n.natAbs (show 0<d.natAbs by omega);rw[aj3 ⟨by omega,by omega⟩,À]
  have ed:d=((d.natAbs:Nat):Int):=by omega
  have eg:zP ((Int.tmod n d).natAbs:Int) d=some (g:Int):=by
   have:=aj1 (Int.tmod n d).natAbs d.natAbs;rw[←ed] at this;rw[this,a0,hg];congr 2;rw[gD n.natAbs,Nat.gcd_rec d.natAbs n.natAbs]
  rw[eg,À,Ò zg]
  have q1:Int.tdiv n (g:Int)=(ng n d).1:=by
   conv=>lhs; rw[h1]
   exact gc _ (by omega)
  have q2:Int.tdiv d (g:Int)=(ng n d).2:=by
   conv=>lhs; rw[h2]
   exact gc _ (by omega)
  rw[q1,q2,Õ (by omega) (by omega),Ò zg,Õ (by omega) (by omega),Ò (by simp[igt]; omega),Ò (by simp[ilt]; omega),Ò (by simp[igt]; omega)]
def anE {x y:Int×Int} (hx:pJ x 1000 100) (hy:pJ y 1000 100):MD x y=some (subP x y,0):=by
 obtain⟨b1,b2,b3⟩:=Hu hx hy;have h1:=me hx.num (show -100≤y.2∧y.2≤100 from⟨by have:=hy.pos; omega,hy.den⟩);have h2:=me hy.num (show -100≤x.2∧x.2≤100 from⟨by have:=hx.pos; omega,hx.den⟩);have h3:=hy.num;unfold MD VV Xr VX Xs V3;rw[Õ (by omega) (by omega),À];dsimp only
 have e:(0-y.1)*x.2 = -(y.1*x.2):=by rw[Int.zero_sub,Int.neg_mul]
 rw[Õ (by omega) (by omega),e,Õ (by omega) (by omega),Õ (by omega) (by omega),Õ (by omega) (by omega)]
 have e2:x.1*y.2 + -(y.1*x.2)=x.1*y.2-y.1*x.2:=by omega
 rw[e2,UH b2 (by omega) (by omega),À,À];rfl
def ajZ {k:Int×Int} (hk:pJ k 200000 10000) {n:Int} (hn : -10000≤n∧n≤10000):vq (n,1) k=some (D3 k n,0):=by
 have b:=HJ hk hn;have p:=hk.pos;have q:=hk.den;unfold vq VY;have e:n*k.1=k.1*n:=Int.mul_comm _ _;dsimp only;rw[e,Int.one_mul,Õ (by omega) (by omega),Õ (by omega) (by omega),UH (by omega) (by omega) (by omega),À];rfl
def ajY {k:Int×Int} (hk:pJ k 200000 10000) {heat:Int×Int} (hh:jp heat (-10000) 10000=true):zO ((heat.1,1),(heat.2,1)) k=some (U9 k heat,0):=by
 simp only[jp,Bool.and_eq_true,decide_eq_true_eq] at hh;have hp:=hk.pos;rw[afP (by omega) hh.2.1];unfold zO H7 GK Ov;dsimp only;rw[ajZ hk ⟨by omega,by omega⟩,ajZ hk ⟨by omega,by omega⟩]
 by_cases hn:k.1<0
 ·rw[Ö (by simpa[ilt] using hn),if_pos hn];rfl
 ·rw[Ò (by simpa[ilt] using hn),if_neg hn];rfl
def ajV {r:Int×Int} (h:JG r=true):zQ r=some (r.1 / r.2):=by
 have:=(jE r).1 h;have e:=Xo (n:=r.1) (d:=r.2) (by omega) (by omega);unfold tj FQ at e;unfold zQ H9 Qe Ot;rw[e];rfl
def al5 {r:Int×Int} (h:JG r=true):GM r=some (Jn r):=by
 have hr:=(jE r).1 h;unfold GM Ox adj acv
 have z:ł r.2 0=false:=by simp[ł]; omega
 have t:=Int.mul_tdiv_add_tmod r.1 r.2
 have b1 : -4000000000≤Int.tdiv r.1 r.2∧Int.tdiv r.1 r.2≤4000000000:=by
  have:=Int.natAbs_tdiv_le_natAbs r.1 r.2;omega
 have h5 : -r.2<Int.tmod r.1 r.2∧Int.tmod r.1 r.2<r.2:=by
  have h6:=gE r.1 r.2;have h7:=gp r.1.natAbs (show 0<r.2.natAbs by omega);omega
 rw[Ò z,Õ (by omega) (by omega),Ò z,Ğ];unfold Jn
 by_cases hp:0<Int.tmod r.1 r.2
 ·rw[if_pos (by simpa[igt] using hp),Õ (by omega) (by omega),À];congr 1
  have : -r.1 / r.2 = -(Int.tdiv r.1 r.2)-1:=by
   refine(fQ (by omega)).2 ⟨?_,?_⟩
   ·rw[Int.sub_mul,Int.neg_mul,fu (Int.tdiv r.1 r.2)]; omega
   ·rw[Int.sub_mul,Int.neg_mul,fu (Int.tdiv r.1 r.2)]; omega
  omega
 ·rw[if_neg (by simpa[igt] using hp),À];congr 1
  have : -r.1 / r.2 = -(Int.tdiv r.1 r.2):=by
   refine(fQ (by omega)).2 ⟨?_,?_⟩
   ·rw[Int.neg_mul,fu (Int.tdiv r.1 r.2)]; omega
   ·rw[Int.neg_mul,fu (Int.tdiv r.1 r.2)]; omega
  omega
structure anO (b:Ü) (c:Cmp):Prop where
 ok:adU b c
 ids:b.2.1.Pairwise fun a b=>a.1<b.1
 pile:∀x∈c.2.2.1++c.2.2.2.1,∃g,Ŧ b x=some g
def đ.cmpIn {b:Ü} (h:đ b) {c:Cmp} (hc:c∈b.2.2.2.2.1):anO b c:=⟨h.cmp hc,h.ids,fun x hx=>by obtain⟨⟨g,hg,_⟩,_⟩:=h.pile hc hx; exact⟨g,hg⟩⟩
def adU.ne {b:Ü} {c:Cmp} (h:adU b c):∀x∈c.2.2.1++c.2.2.2.1,x≠0:=by
 intro x hx;have hn:=(Κ c).1 h.nums;have h1:=((DI _).1 hn.2.2.2.2.2.1).1;have h2:=((DI _).1 hn.2.2.2.2.2.2).1;rcases cN.1 hx with hx|hx
 ·have:=h1 x hx; omega
 ·have:=h2 x hx; omega
def abA {b:Ü} (hs:ŷ b) (hi:b.2.1.Pairwise fun a b=>a.1<b.1) {p q:List Int} (hx:∀x∈p,x≠0∧∃g,Ŧ b x=some g):s8 b (K7 p q)=some (DF (gU b) (å p q)):=by
 have h1:=hs.gauges;unfold s8 HQ
 cases hl:å p q with
 |nil =>
  have:K7 p q=0:=by unfold K7; rw[hl]; rfl
  rw[this];rfl
 |cons x t =>
  have e:K7 p q=x:=by unfold K7; rw[hl]; rfl
  have hm:x∈p:=(jw.1 (show x∈å p q by rw[hl]; simp)).1;obtain⟨h0,g,hg⟩:=hx x hm;rw[e,Ò (by simpa[ieq] using h0),MJ (by omega),À];rcases zH (b:=b) (id:=x) with⟨j,g',h2,h3,h4⟩|⟨h2,h3⟩
  ·rw[h2]
   try dsimp only
   rw[Ë h3];unfold DF;dsimp only;rw[zr hi,h4]
  ·rw[h3] at hg; cases hg
def agW {b:Ü} (hs:ŷ b) {c:Cmp} (h:anO b c):vm b c=some (Ļ b c):=by
 have hn:=(Κ c).1 h.ok.nums;have ha:=Ĭ hn.2.2.2.2.2.1;have hb:=Ĭ hn.2.2.2.2.2.2;have hA:∀x∈c.2.2.1,x≠0∧∃g,Ŧ b x=some g:=fun x hx=>⟨h.ok.ne x (by simp[hx]),h.pile x (by simp[hx])⟩;have hB:∀x∈c.2.2.2.1,x≠0∧∃g,Ŧ b x=some g:=fun x hx=>⟨h.ok.ne x (by simp[hx]),h.pile x (by simp[hx])⟩;unfold vm CE;rw[Jw (by omega) (by omega),À,abA hs h.ids hA,À,Jw (by omega) (by omega),À,abA hs h.ids hB,À,anE h.ok.r1 h.ok.r2,À]
 try dsimp only
 rw[ajY (heat:=c.2.2.2.2.2.2) (MO h.ok.r1 h.ok.r2) hn.2.2.2.2.1,À];rfl
def aj2 {b:Ü} {c:Cmp} (hA:c.2.2.1.length≤1000) (hB:c.2.2.2.1.length≤1000) (h1:0≤b.1.1) (h2:b.1.1≤1000000) (h3:0≤b.1.2) (h4:b.1.2≤1000000):zM b c=some (jj b c):=by
 unfold zM HY jj
 have e:∀n:Nat,QY 0 ((n:Int)-1)=((n-1:Nat):Int):=by
  intro n;unfold QY
  split<;>omega
 have bd:∀(n:Nat) (x:Int),n≤1000→0≤x→x≤1000000→0≤((n-1:Nat):Int)*x∧((n-1:Nat):Int)*x≤1000000000:=by
  intro n x hn h0 hx;refine⟨fH (by omega) h0,?_⟩;have:=ff (show((n-1:Nat):Int)≤1000 by omega) hx h0 (by omega);omega
 have b1:=bd _ _ hA h1 h2;have b2:=bd _ _ hA h3 h4;have b3:=bd _ _ hB h1 h2;have b4:=bd _ _ hB h3 h4;simp only[æ];rw[Õ (by omega) (by omega),Õ (by omega) (by omega)];simp only[e];rw[Õ (by omega) (by omega),Õ (by omega) (by omega),Õ (by omega) (by omega),Õ (by omega) (by omega),Õ (by omega) (by omega),Õ (by omega) (by omega)]
def al8 {b:Ü} (hs:ŷ b) (hf:0≤b.1.1∧b.1.1≤b.1.2∧b.1.2≤1000000) {c:Cmp} (h:anO b c):s9 b c=some (Ι b c):=by
 have hn:=(Κ c).1 h.ok.nums;have ha:=Ĭ hn.2.2.2.2.2.1;have hb:=Ĭ hn.2.2.2.2.2.2;obtain⟨q1,q2,b1,b2,b3⟩:=wJ hf h.ok;have c1:=zZ q1;have c2:=vf q2;have fb:=vk (b:=b) (c:=c) (by omega) (by omega) (by omega) (by omega) (by omega) (by omega);have hd:=hn.2.2.1;unfold s9 NS Ι;rw[agW hs h,À,aj2 (by omega) (by omega) (by omega) (by omega) (by omega) (by omega),À,ajV q2.rat,al5 q1.rat];simp only[À];rw[Õ (by omega) (by omega),Õ (by omega) (by omega),Õ (by omega) (by omega),Õ (by omega) (by omega),Õ (by omega) (by omega),Õ (by omega) (by omega)]
section
variable {b:Ü}
def al9 (h:đ b) {id:Int} {g:é} (hg:Ŧ b id=some g) {f t:Int} (hf:0≤f∧f≤100000) (ht:t≤100000):ta b id f t=some (iw b g f t):=by
 have hG:=h.nG;have hU:=h.nU;have hL:=h.nL;obtain⟨hgm,hid⟩:=mV hg;unfold ta NZ;rw[MJ (by omega),À];rcases zH (b:=b) (id:=id) with⟨j,g',h2,h3,h4⟩|⟨h2,h3⟩
 ·rw[h2]
  have:g'=g:=by rw[hg] at h4; exact(Option.some.inj h4).symm
  subst this
  try dsimp only
  rw[Ë h3];refine Ņ (fun x:Int×Int=>f≤x.2∧(x.2≤t∨x.2=f)∧x.1=iw b g' f x.2) (fun x=>(t-x.2).toNat) ?_ ⟨dE _,.inr rfl,(yD g' (dE _)).symm⟩;rintro⟨s,d⟩ ⟨hfd,hdt,hs⟩;simp only at hfd hdt hs;subst hs
  by_cases hd:d<t
  ·refine .inr ⟨(iw b g' f (d+1),d+1),⟨by simp only; omega,.inl (by simp only; omega),rfl⟩,by simp only; omega,fun kn=>?_⟩;have e:=PS h g' hfd;have lb:=jU h hgm (f:=f) (t:=d) hf.1;have lb2:=jU h hgm (f:=f) (t:=d+1) hf.1;unfold qd;rw[Ö (by simpa[ilt] using hd),afu (b:=((b.1.1,b.1.2),b.2.1,b.2.2.1,b.2.2.2.1,b.2.2.2.2.1,b.2.2.2.2.2)) (by simp only; omega),À];have e1:kX ((b.1.1,b.1.2),b.2.1,b.2.2.1,b.2.2.2.1,b.2.2.2.2.1,b.2.2.2.2.2) id d=kX b id d:=rfl;rw[e1];unfold adq at e;rw[hid] at e
   cases ha:kX b id d with
   |some l =>
    rw[ha] at e;simp only at e;rw[Ö rfl]
    try dsimp only
    rw[←e,Õ (by omega) (by omega),Õ (by omega) (by omega)]
   |none =>
    rw[ha] at e;simp only at e;rw[Ò rfl,al7 (b:=((b.1.1,b.1.2),b.2.1,b.2.2.1,b.2.2.2.1,b.2.2.2.2.1,b.2.2.2.2.2)) (by simp only; omega),À];have e2:KY ((b.1.1,b.1.2),b.2.1,b.2.2.1,b.2.2.2.1,b.2.2.2.2.1,b.2.2.2.2.2) id d=KY b id d:=rfl;rw[e2]
    cases hu:KY b id d with
    |true =>
     rw[hu,if_pos rfl] at e;rw[Ö rfl]
     try dsimp only
     rw[←e,Õ (by omega) (by omega),Õ (by omega) (by omega)]
    |false =>
     rw[hu,if_neg (by simp)] at e;rw[Ò rfl,Õ (by omega) (by omega),e,fX]
  ·refine .inl fun kn=>?_;unfold qd;rw[Ò (by simpa[ilt] using hd)]
   have:iw b g' f d=iw b g' f t:=by
    rcases gj t f with hlt|hge
    ·have:d=f:=by omega
     rw[this,yD g' (dE _),yD g' (by omega)]
    ·have:d=t:=by omega
     rw[this]
   rw[this]
 ·rw[h3] at hg; cases hg
end
end Go.Proofs.ZzM
end
