/- lemmas -/
import Derived.Test.YtmadligicacpkaaGreatPlA
import Derived.Test.YtmadligicacpkaaGreatMdTA
set_option linter.all false
set_option linter.unusedSectionVars false
set_option linter.unusedVariables false
set_option linter.unusedSimpArgs false
noncomputable section
namespace Go.Proofs.ZzM
open Go Go.Am
section
variable {L:List Lk} {N:Nat}
def Wl.app {u v:Int} {vs:List Int} {d:Int} (h1:Wl L (fun x=>x=u) vs v d) {ws:List Int} {w e:Int} (h2:Wl L (fun x=>x=v) ws w e):∃xs,Wl L (fun x=>x=u) xs w (d+e):=by
 induction h2 with
 |nil h=>subst h; exact⟨vs,by rw[f0]; exact h1⟩
 |step hw hx ih =>
  obtain⟨xs,hi⟩:=ih;have:=Wl.step hi hx;rw[Int.add_assoc] at this;exact⟨_,this⟩
def dst (L:List Lk) (N:Nat) (s t:Int):Int:=gv (ow L N s) t
def amq (h:Ħ L N) (ht:ya L N) (ho:ħ L N=true) {s t:Int} (hs:0≤s∧s<N) (hv:0≤t∧t<N):dst L N s t≤9007199254740992:=by
 have h2:=h.n60;obtain⟨p,hp⟩:=(Ļ h.links (by omega)).1 ho;obtain⟨vs,d,hw,hd⟩:=ht.from' s hs.1 hs.2;obtain⟨ws,e,hx,he⟩:=ht.to t hv.1 hv.2;obtain⟨xs,hy⟩:=Wl.app hw hx;have:=(χ h.links (by omega) hp hs).low t xs _ (PO.2 hy);unfold dst;omega
def aeu (h:Ħ L N) (ht:ya L N) (ho:ħ L N=true) {s t:Int} (hs:0≤s∧s<N) (hv:0≤t∧t<N):dst L N s t≠Ģ:=by
 have:=amq h ht ho hs hv;unfold Ģ;omega
def amp (h:Ħ L N) (ht:ya L N) (ho:ħ L N=true) {s:Int} (hs:0≤s∧s<N):Pot L (dst L N s):=by
 have h2:=h.n60;obtain⟨p,hp⟩:=(Ļ h.links (by omega)).1 ho;intro u v m hl;have hr:=h.inr _ hl;exact(χ h.links (by omega) hp hs).pot h.inr hl (aeu h ht ho hs hr.1)
def aiq (h:Ħ L N) (ho:ħ L N=true) {s:Int} (hs:0≤s∧s<N):dst L N s s=0:=ag1 h ho hs.1 hs.2
def Ly (h:Ħ L N) (ht:ya L N) (ho:ħ L N=true) {s t:Int} (hs:0≤s∧s<N) (hv:0≤t∧t<N) {p:Int→Int} (hp:Pot L p):p t-p s≤dst L N s t:=by
 have h2:=h.n60;obtain⟨vs,hw⟩:=(χ h.links (by omega) hp hs).att t hv.1 hv.2 (aeu h ht ho hs hv);obtain⟨u,hu,hx⟩:=(PO.1 hw).pot hp;subst hu;exact hx
def ams (h:Ħ L N) (ht:ya L N) (ho:ħ L N=true) {x y:Int} (hx:0≤x∧x<N) (hy:0≤y∧y<N) {t:Int} (h1 : -(dst L N x y)≤t) (h2:t≤dst L N y x):∃p,Pot L p∧p x-p y=t:=by
 refine⟨fun v=>min (dst L N y v) (dst L N x v+t),fun u v m hl=>?_,?_⟩
 ·have a1:=amp h ht ho hy u v m hl;have a2:=amp h ht ho hx u v m hl;show min _ _≤min _ _+m;omega
 ·have e1:=aiq h ho hx;have e2:=aiq h ho hy;show min (dst L N y x) (dst L N x x+t)-min (dst L N y y) (dst L N x y+t)=t;omega
def Jf (h:Ħ L N) (ht:ya L N) (ho:ħ L N=true) {x y:Int} (hx:0≤x∧x<N) (hy:0≤y∧y<N) : -(dst L N x y)≤dst L N y x:=by
 have h2:=h.n60;obtain⟨p,hp⟩:=(Ļ h.links (by omega)).1 ho;have a1:=Ly h ht ho hx hy hp;have a2:=Ly h ht ho hy hx hp;omega
def air (h:Ħ L N) (ht:ya L N) (ho:ħ L N=true) {s t:Int} (hs:0≤s∧s<N) (hv:0≤t∧t<N) : -9007199254740992≤dst L N s t∧dst L N s t≤9007199254740992:=by
 have a1:=amq h ht ho hs hv;have a2:=amq h ht ho hv hs;have a3:=Jf h ht ho hv hs;omega
def vt (h:Ħ L N) (ht:ya L N) {s t:Int} (hs:0≤s∧s<N) (hv:0≤t∧t<N):g9 L N s t=if ħ L N then(dst L N s t,0) else(0,9):=by
 unfold g9
 by_cases ho:ħ L N=true
 ·have hne:=aeu h ht ho hs hv;unfold dst at hne ⊢;rw[if_neg (by simp[ho]),if_neg hne,if_pos ho]
 ·rw[if_pos (by simpa using ho),if_neg ho]
end
section
variable {b:Þ} {c:Cmp}
def aqU (h':Č (î b c)):GL (î b c) (ú (î b c)):=by
 intro i g hg l hl;rw[agw];exact dc.2 (.inl (dv.2 ⟨g,cZ hg,hl⟩))
def j8 (h':Č (î b c)):ya (ú (î b c)) ((Í (î b c)).length+1):=h'.tiedL (aqU h')
def jH (h':Č (î b c)):Ħ (ú (î b c)) ((Í (î b c)).length+1) :=
 h'.sys.sub (fun l hl=>List.mem_of_mem_take hl) (by unfold ú; rw[List.length_take]; omega)
def qo (h:Č b) (h':Č (î b c)):ħ (ú (î b c)) ((Í (î b c)).length+1)=ħ (Û b) ((Í b).length+1):=by
 have n1:=h.sys.n60;have n2:=(jH h').n60;rw[dJ,Ļ (jH h').links (by omega),Ļ h.sys.links (by omega)];exact(alg h h').symm
def A5:c∈(î b c).2.2.2.2.1:=by simp[î]
def DH (h':Č (î b c)):0≤cx (î b c) c∧cx (î b c) c<((Í (î b c)).length+1:Nat):=(aaE h' A5).rng
def DG (h':Č (î b c)):0≤cy (î b c) c∧cy (î b c) c<((Í (î b c)).length+1:Nat):=(Tl h' A5).rng
def dLo (b:Þ) (c:Cmp):Int:=-(dst (ú (î b c)) ((Í (î b c)).length+1) (cx (î b c) c) (cy (î b c) c))
def dHi (b:Þ) (c:Cmp):Int:=dst (ú (î b c)) ((Í (î b c)).length+1) (cy (î b c) c) (cx (î b c) c)
def TU (h:Č b) (h':Č (î b (Ë c))):Ł b c=if ħ (Û b) ((Í b).length+1) then Pv b (Ë c) (dLo b (Ë c),dHi b (Ë c)) else((0,0),9):=by
 have e:AR b (Ë c)=(î b (Ë c),0):=by
  unfold AR;rw[if_neg (by simp[(ì b).2 h]),if_neg (by simp[(ì _).2 h'])]
 unfold Ł;rw[e,vt (jH h') (j8 h') (DG h') (DH h'),vt (jH h') (j8 h') (DH h') (DG h'),qo h h']
 by_cases ho:ħ (Û b) ((Í b).length+1)=true
 ·rw[if_pos ho,if_pos ho,if_pos ho];rfl
 ·rw[if_neg ho,if_neg ho,if_neg ho];rfl
def pl (hp:(Ł b c).2=0):Č b∧Č (î b (Ë c)):=by
 have hw:(AR b (Ë c)).2=0:=by
  unfold Ł at hp
  by_cases hw:(AR b (Ë c)).2=0
  ·exact hw
  ·rw[if_pos hw] at hp; exact hp
 unfold AR at hw
 by_cases hb:ê b=0
 ·rw[if_neg (by simp[hb])] at hw
  by_cases hm:ê (î b (Ë c))=0
  ·exact⟨(ì b).1 hb,(ì _).1 hm⟩
  ·rw[if_pos hm] at hw; exact absurd hw hm
 ·rw[if_pos hb] at hw; exact absurd hw hb
def afi {s:Int×Int} (h:(Pv b c s).2=0):agr b c≤E7 b c∧Pv b c s=((s.1+agr b c,s.2+E7 b c),0):=by
 unfold Pv at h ⊢
 split at h
 ·simp at h
 ·rename_i hl;rw[if_neg hl];exact⟨by omega,rfl⟩
end
structure anw (B:Þ):Prop where
 good:Č B
 op:ħ (Û B) ((Í B).length+1)=true
 num:∀g∈B.2.1,I64 g.2.2.2.2.1.1
theorem j4 {b:Þ} (hI:In b) {ns:List (Int×Int)} (e:(ċ b ns).2=0):anw (ċ b ns).1∧(ċ b ns).1=(ŋ b ns).1∧(ŋ b ns).2=0∧Č b:=by
 unfold ċ at e ⊢
 by_cases hc:ê b=0
 ·rw[if_neg (by simp[hc])] at e ⊢
  by_cases hr:(ŋ b ns).2=0
  ·rw[if_neg (by simp[hr])] at e ⊢
   cases ho:ħ (Û (ŋ b ns).1) ((Í (ŋ b ns).1).length+1) with
   |true =>
    rw[if_pos rfl];exact⟨⟨Fz ((ì b).1 hc) hr,ho,by rw[vy hr]; exact hI.num⟩,rfl,hr,(ì b).1 hc⟩
   |false=>rw[ho] at e; simp at e
  ·rw[if_pos hr] at e; exact absurd e hr
 ·rw[if_pos hc] at e; exact absurd e hc
theorem ŗ (B:Þ) (n:Int×Int):0≤mN B n.1 n.2∧mN B n.1 n.2<((Í B).length+1:Nat):=by
 unfold mN
 cases h:iD (Í B) n.1 n.2 with
 |none=>dsimp only; omega
 |some j=>have:=(kQ h).1; dsimp only; omega
theorem TL {B:Þ} (h:Č B) (hn:∀g∈B.2.1,I64 g.2.2.2.2.1.1) (s:Sys) (n:Int×Int):ς (B,s) n=some (mN B n.1 n.2):=by
 unfold ς EC;rw[show Ŧ (B,s).1 n=Ŧ B n from rfl,TW (h.inn hn),À,Fo h]
 split
 ·rename_i e; rw[e]
 ·rfl
theorem aeP {B:Þ} {L:List Lk} {N:Nat} (h:Ħ L N) {to from':Int} (h1:0≤to∧to<N) (h2:0≤from'∧from'<N):Ď (B,(N:Int),L) to from'=some (g9 L N from' to).1:=by
 unfold Ď sT;rw[show(B,(N:Int),L).2=((N:Int),L) from rfl,Ph h h2 h1,À]
def TY (B:Þ):Sys:=(((Í B).length:Int)+1,Û B)
def Ow (B:Þ) (s t:Int):Int:=dst (Û B) ((Í B).length+1) s t
def ivR (B:Þ) (n:Int×Int):Int×Int:=(-(Ow B (mN B n.1 n.2) 0),Ow B 0 (mN B n.1 n.2))
theorem JG (B:Þ):TY B=((((Í B).length+1:Nat):Int),Û B):=by unfold TY; push_cast; rfl
theorem ń (B:Þ):0≤(0:Int)∧(0:Int)<((Í B).length+1:Nat):=by omega
section
variable {B:Þ} (h:anw B)
include h
theorem Fe {s t:Int} (hs:0≤s∧s<((Í B).length+1:Nat)) (ht:0≤t∧t<((Í B).length+1:Nat)) : -9007199254740992≤Ow B s t∧Ow B s t≤9007199254740992 :=
 air h.good.sys h.good.tied h.op hs ht
theorem BL {to from':Int} (h1:0≤to∧to<((Í B).length+1:Nat)) (h2:0≤from'∧from'<((Í B).length+1:Nat)):Ď (B,TY B) to from'=some (Ow B from' to):=by
 rw[JG,aeP h.good.sys h1 h2,vt h.good.sys h.good.tied h2 h1,if_pos h.op];rfl
theorem Xc (n:Int×Int):π (B,TY B) n=some (-(Ow B (mN B n.1 n.2) 0)):=by
 unfold π sS;have hb:=Fe h (ŗ B n) (ń B);rw[TL h.good h.num,À,BL h (ń B) (ŗ B n),À,Õ (by omega) (by omega)];congr 1;omega
theorem IM (n:Int×Int):iv (B,TY B) n=some (Ow B 0 (mN B n.1 n.2)):=by
 unfold iv mG;rw[TL h.good h.num,À,BL h (ŗ B n) (ń B),À]
theorem wO (n:Int×Int):ű (B,TY B) n=some (ivR B n):=by
 unfold ű mF;rw[Xc h,À,IM h,À];rfl
end
def JB (b:Þ) (n:Int×Int):(Int×Int)×Int:=if (ċ b [n]).2≠0 then((0,0),(ċ b [n]).2) else(ivR (ċ b [n]).1 n,0)
theorem TV {b:Þ} (hI:In b) (n:Int×Int):nV b n=some (JB b n):=by
 unfold nV zF JB;refine(vB hI (ns:=[n]) (by simp) (fun e=>some (((0,0):Int×Int),e)) (fun e he=>by rw[Ĭ (by simp[ine,he])]) (fun z he=>by rw[Ĭ (by simp[ine,he])]) (fun _ _ _=>rfl)).trans ?_
 split
 ·rfl
 ·rename_i e;have hr:=(j4 hI (by simpa using e)).1;dsimp only;rw[Ar,show((((Í (ċ b [n]).1).length:Int)+1,Û (ċ b [n]).1):Sys)=TY (ċ b [n]).1 from rfl,wO hr,À]
theorem aki {ρ:Type}:@s7 ρ=@ĕ ρ:=rfl
theorem aoR {ρ:Type}:@zE ρ=@ĕ ρ:=rfl
def btR (B:Þ) (m n:Int×Int):Int×Int:=(-(Ow B (mN B m.1 m.2) (mN B n.1 n.2)),Ow B (mN B n.1 n.2) (mN B m.1 m.2))
def abc (b:Þ) (m n:Int×Int):(Int×Int)×Int:=if (ċ b [m,n]).2≠0 then((0,0),(ċ b [m,n]).2) else(btR (ċ b [m,n]).1 m n,0)
theorem aku {b:Þ} (hI:In b) (m n:Int×Int):wY b m n=some (abc b m n):=by
 unfold wY EK abc;rw[aki];refine(vB hI (ns:=[m,n]) (by simp) (fun e=>some (((0,0):Int×Int),e)) (fun e he=>by rw[Ĭ (by simp[ine,he])]) (fun z he=>by rw[Ĭ (by simp[ine,he])]) (fun _ _ _=>rfl)).trans ?_
 split
 ·rfl
 ·rename_i e;have hr:=(j4 hI (by simpa using e)).1;dsimp only;generalize (ċ b [m,n]).1=B at hr ⊢;have hb:=Fe hr (ŗ B m) (ŗ B n)
  rw[Ar,show((((Í B).length:Int)+1,Û B):Sys)=TY B from rfl,TL hr.good hr.num,À,TL hr.good hr.num,À,BL hr (ŗ B n) (ŗ B m),À,
   Õ (by omega) (by omega),BL hr (ŗ B m) (ŗ B n),À]
  unfold btR;rw[Int.zero_sub]
def qN (s l:Int×Int):Int:=if l.1≤s.1∧s.2≤l.2 then 1 else if s.2<l.1∨l.2<s.1 then 2 else 3
theorem VZ (s l:Int×Int):qx s l=some (qN s l):=by
 unfold qx EA qN;simp only[Ė,ile,ilt,decide_eq_true_eq]
 by_cases h1:l.1≤s.1<;>by_cases h2:s.2≤l.2<;>by_cases h3:s.2<l.1<;>by_cases h4:l.2<s.1<;>simp[h1,h2,h3,h4]
def anR (b:Þ) (n l:Int×Int):Int×Int:=if (ċ b [n]).2≠0 then(0,(ċ b [n]).2) else if l.2<l.1 then(0,1) else(qN (ivR (ċ b [n]).1 n) l,0)
theorem apX {b:Þ} (hI:In b) (n l:Int×Int):I7 b n l=some (anR b n l):=by
 unfold I7 Rn anR;rw[aoR];refine(vB hI (ns:=[n]) (by simp) (fun e=>some ((0:Int),e)) (fun e he=>by rw[Ô (by simp[ine,he])]) (fun z he=>by rw[Ô (by simp[ine,he])]) (fun _ _ _=>rfl)).trans ?_
 split
 ·rfl
 ·rename_i e;have hr:=(j4 hI (by simpa using e)).1;dsimp only
  by_cases hl:l.2<l.1
  ·rw[Ô (by simp[igt,hl]),if_pos hl]
  ·rw[Ò (by simp[igt]; omega),if_neg hl,Ar,show((((Í (ċ b [n]).1).length:Int)+1,Û (ċ b [n]).1):Sys)=TY (ċ b [n]).1 from rfl,wO hr,À,VZ,À]
def TX (x y:List Int):List Int×List Int×Int:=if !l8 x then([],[],1) else if !l8 y then([],[],1) else(è x y,è y x,0)
def ae3 {x y:List Int} (hx:x.length≤100000) (hy:y.length≤100000):vk x y=some (TX x y):=by
 unfold vk Le TX;rw[IG (by omega),À]
 cases l8 x with
 |false=>rfl
 |true =>
  rw[IG (by omega),À]
  cases l8 y with
  |false=>rfl
  |true =>
   rw[tg (by omega) (by omega),À,tg (by omega) (by omega),À];rfl
def aen (ls:List (List Int)) (i:Nat):(ls.take i).flatten.length≤ls.flatten.length:=by
 conv=>rhs; rw[←List.take_append_drop i ls,fI,cX]
 omega
def pD {ls:List (List Int)} (hl:ls.length≤1000000) (hf:ls.flatten.length≤1000000):ï ls=some ls.flatten:=by
 have hk:∀n:Nat,n≤4000000→∀(f:Int→Option (List Int)),ck (n:Int) f=f n:=fun n h f=>Õ (by omega) (by omega) f
 have second:Ñ (fun(v9:(Val (.pair tI (.slice tI)))) kk12=>ñ ls (Ú ls) v9.1 v9.2 (fun u10 u11=>kk12 (u10,u11)) (fun z8=>some z8)) ((0:Int),([]:List Int))=some ls.flatten:=by
  refine ò ls (fun i=>(ls.take i).flatten) (some ls.flatten) (f:=fun(v9:(Val (.pair tI (.slice tI)))) kk12=>ñ ls (Ú ls) v9.1 v9.2 (fun u10 u11=>kk12 (u10,u11)) (fun z8=>some z8)) rfl (fun i x hi hx kn=>?_) (fun kn=>?_)
  ·try dsimp only
   unfold ñ;have h1:=aen ls (i+1);rw[take_succ hx,List.flatten_append,List.length_append] at h1;simp only[List.flatten_cons,List.flatten_nil,List.append_nil] at h1;rw[Ó hi,É hx,Ì hi (by omega),take_succ hx,List.flatten_append];have:ë ((List.take i ls).flatten.length+x.length)=true:=Ø (by omega);rw[Ĭ this];simp
  ·try dsimp only
   unfold ñ;rw[Ü];simp
 unfold ï jf;refine ņ (fun x:Int×Int=>∃i:Nat,i≤ls.length∧x=(((ls.take i).flatten.length:Int),(i:Int))) (fun x=>ls.length-x.2.toNat) ?_ ⟨0,by omega,rfl⟩;rintro x ⟨i,hi,rfl⟩;rcases Nat.lt_or_ge i ls.length with h2|h2
 ·refine .inr ⟨(((ls.take (i+1)).flatten.length:Int),(i:Int)+1),⟨i+1,h2,by simp⟩,by simp; omega,fun kn=>?_⟩;obtain⟨x,hx⟩:∃x,ls[i]?=some x:=⟨_,cQ h2⟩;have h1:=aen ls (i+1);rw[take_succ hx,fI,cX] at h1;simp only[fV,gq,dR] at h1
  try dsimp only
  unfold ļ;rw[Ó h2,É hx,á]
  have e1:(((List.take i ls).flatten.length:Int)+(x.length:Int))=((List.take i ls).flatten.length+x.length:Nat):=by omega
  rw[e1,hk _ (by omega)]
  have:ilt ((((List.take i ls).flatten.length+x.length:Nat)):Int) 0=false:=by simp[ilt]; omega
  rw[Ò this,Ì h2 (by omega),take_succ hx];simp
 ·refine .inl fun kn=>?_
  obtain rfl:i=ls.length:=by omega
  try dsimp only
  unfold ļ;rw[Ü,List.take_length];have e2:ilt ((ls.flatten.length:Nat):Int) 0=false:=decide_eq_false (by omega);dsimp only;rw[Ò e2,Int.sub_zero,hk _ (by omega)];rcases Nat.eq_zero_or_pos ls.flatten.length with h0|h0
  ·have:igt (ls.flatten.length:Int) 0=false:=decide_eq_false (by omega);rw[Ò this];exact second
  ·have:igt (ls.flatten.length:Int) 0=true:=decide_eq_true (by omega);rw[Ô this]
   have:((ilt (0:Int) (ls.flatten.length:Int))&&(ë (Int.toNat (ls.flatten.length:Int))))=true:=by
    rw[dn,Ø (by omega),fq];exact decide_eq_true (by omega)
   rw[Ĭ this];have:ile 0 (Ĕ (List.replicate (Int.toNat (ls.flatten.length:Int)) (0:Int)))=true:=decide_eq_true (Int.natCast_nonneg _);rw[Ĭ this];exact second
def onP (day:Int) (ids:List Int):List (Int×Int):=ids.map fun id=>(id,day)
def akS {day:Int} {ls:List (List Int)} (hl:ls.length≤1000000) (hf:ls.flatten.length≤1000000):I5 day ls=some (onP day ls.flatten):=by
 unfold I5 Rb;rw[pD hl hf,À];refine ò ls.flatten (fun i=>onP day (ls.flatten.take i)) _ rfl (fun i x hi hx kn=>?_) (fun kn=>?_)
 ·try dsimp only
  unfold rP;rw[Ó hi,É hx,Ì hi (by omega),take_succ hx];have:ë (List.length (onP day (ls.flatten.take i))+List.length ([(x,day)]))=true:=Ø (by simp[onP]; omega);rw[Ĭ this];simp[onP]
 ·try dsimp only
  unfold rP;rw[Ü,List.take_length]
def aoi {l:List Int} (hl:l.length≤100000) (m:Int):O8 l m=some (l8 l&&decide ((l.length:Int)≤m)):=by
 unfold O8 Zf;rw[ae3 hl (by simp),À]
 have e0:l8 []=true:=by decide
 unfold TX;rw[e0,á]
 cases l8 l<;>rfl
def aqx (n:Int):I6 n=some (Jk n):=by
 unfold I6 Rg Jk inP;rw[Ė]
 by_cases h:0≤n
 ·rw[if_pos (by simpa[ige] using h)]; simp[h]
 ·rw[if_neg (by simpa[ige] using h)]; simp[h]
def aan {ρ α:Type} (l:List α) (i:Int) (f:α→Option ρ):í ((ile (0:Int) i)&&(ilt i (Ĕ l))) (Ŋ l (Int.toNat i) f)=õ l i f:=by
 unfold õ
 by_cases h0:0≤i
 ·by_cases h1:i<l.length
  ·have e:((ile (0:Int) i)&&(ilt i (Ĕ l)))=true:=by simp[ile,ilt,h0,h1]
   rw[Ĭ e];simp only[h0,decide_true];unfold Ŋ;rfl
  ·have e:((ile (0:Int) i)&&(ilt i (Ĕ l)))=false:=by simp[ile,ilt,h1]
   rw[e];simp only[h0,decide_true];rw[fP (by omega)];rfl
 ·have e:((ile (0:Int) i)&&(ilt i (Ĕ l)))=false:=by simp[ile,ilt,h0]
  rw[e];simp only[h0,decide_false];rfl
def aqG {ρ:Type} (ns:List (Int×Int)) (n:Int):@wg ρ ns n=@ĕ ρ n ns:=by
 funext v0 v1 v2 v3 v4 v5 v6 v7 kn k0 k1;unfold wg ĕ;rw[aan]
def ahs (B:Þ) (ns:List (Int×Int)) (s:Int×Int):Int×Int:=ns.foldl (fun s n=>(s.1+(ivR B n).1,s.2+(ivR B n).2)) s
def pileR (B:Þ) (f:Int×Int) (ns:List (Int×Int)):Int×Int:=ahs B ns (((ns.length:Int)-1)*f.1,((ns.length:Int)-1)*f.2)
def arp (b:Þ) (day:Int) (ids:List Int):(Int×Int)×Int :=
 if ê b≠0 then((0,0),ê b) else if ids.length=0∨l8 ids=false∨Jk day=false then((0,0),1) else
 if (ċ b (onP day ids)).2≠0 then((0,0),(ċ b (onP day ids)).2) else(pileR (ċ b (onP day ids)).1 b.1 (onP day ids),0)
def afd (B:Þ) (x y:List (Int×Int)) (s:Int×Int):ahs B (x++y) s=ahs B y (ahs B x s):=by unfold ahs; rw[List.foldl_append]
def akL {B:Þ} (h:anw B):∀(ns:List (Int×Int)) (s:Int×Int) (m:Int),-m≤s.1∧s.1≤m→-m≤s.2∧s.2≤m →
 (-(m+ns.length*9007199254740992)≤(ahs B ns s).1∧(ahs B ns s).1≤m+ns.length*9007199254740992)∧(-(m+ns.length*9007199254740992)≤(ahs B ns s).2∧(ahs B ns s).2≤m+ns.length*9007199254740992)
 |[],s,m,h1,h2=>by unfold ahs; simp; omega
 |n::t,s,m,h1,h2=>by
  have b1:=Fe h (ŗ B n) (ń B);have b2:=Fe h (ń B) (ŗ B n);have:=akL h t (s.1+(ivR B n).1,s.2+(ivR B n).2) (m+9007199254740992) (by unfold ivR; dsimp only; omega) (by unfold ivR; dsimp only; omega);show(-(m+((n::t).length:Nat)*9007199254740992)≤(ahs B t _).1∧_)∧_;unfold ahs at this ⊢;simp only[List.foldl_cons,List.length_cons];push_cast;omega
def aro {b:Þ} (hI:In b) (day:Int) {ids:List Int} (hl:ids.length≤1000):O9 b day ids=some (arp b day ids):=by
 unfold O9 Zt arp;rw[ji hI.size hI.num,À,aoi (by omega),À,aqx,À,á]
 by_cases hc:ê b=0
 ·rw[Ò (by simp[ine,hc]),if_neg (show ¬(ê b≠0) from fun h=>h hc)]
  by_cases h0:ids.length=0
  ·rw[Ô (by simp[ieq,h0]),if_pos (.inl h0)]
  ·rw[Ò (beq_eq_false_iff_ne.2 (by omega))]
   by_cases h1:l8 ids=true
   ·have hp:=(FC ids).1 h1
    have e1:(l8 ids&&decide ((ids.length:Int)≤6))=true:=by rw[h1]; simp; omega
    rw[e1,Ò (by rfl)]
    by_cases h2:Jk day=true
    ·have hg:=(ì b).1 hc;rw[Ò (by rw[h2]; rfl),if_neg (by simp[h0,h1,h2]),akS (by simp) (by simp; omega),À]
     have hlen:(onP day ids).length=ids.length:=by simp[onP]
     rw[show([ids]:List (List Int)).flatten=ids by simp,aqG,←ji hI.size hI.num];refine(vB hI (ns:=onP day ids) (by omega) (fun e=>some (((0,0):Int×Int),e)) (fun e he=>by rw[Ô (by simp[ine,he])]) (fun z he=>by rw[Ô (by simp[ine,he])]) (fun _ _ _=>rfl)).trans ?_
     split
     ·rfl
     ·rename_i e;have hr:=(j4 hI (by simpa using e)).1;have hf:=hg.film;dsimp only;generalize (ċ b (onP day ids)).1=B at hr ⊢
      have hm:∀x:Int,0≤x→x≤1000000→0≤((ids.length:Int)-1)*x∧((ids.length:Int)-1)*x≤10000000:=by
       intro x h0 h1;have:((ids.length:Int)-1)*x≤5*1000000:=fB (by omega) h1 h0 (by omega);exact⟨fX (by omega) h0,by omega⟩
      have m1:=hm b.1.1 (by omega) (by omega);have m2:=hm b.1.2 (by omega) (by omega);rw[Õ (by omega) (by omega),Õ (by omega) (by omega),Õ (by omega) (by omega),Ar,show((((Í B).length:Int)+1,Û B):Sys)=TY B from rfl];unfold pileR;rw[hlen];refine ò (onP day ids) (fun i=>ahs B ((onP day ids).take i) (((ids.length:Int)-1)*b.1.1,((ids.length:Int)-1)*b.1.2)) _ rfl (fun i n hi hn kn=>?_) (fun kn=>?_)
      ·try dsimp only
       unfold we;have b1:=Fe hr (ŗ B n) (ń B);have b2:=Fe hr (ń B) (ŗ B n);have bs:=akL hr ((onP day ids).take i) (((ids.length:Int)-1)*b.1.1,((ids.length:Int)-1)*b.1.2) 10000000 (by dsimp only; omega) (by dsimp only; omega)
       have bl:(((onP day ids).take i).length:Int)≤6:=by rw[di]; omega
       rw[Ó hi,É hn,wO hr,À,take_succ hn,afd];generalize ahs B ((onP day ids).take i) (((ids.length:Int)-1)*b.1.1,((ids.length:Int)-1)*b.1.2)=s at bs ⊢;unfold ivR;dsimp only;rw[Õ (by omega) (by omega),Õ (by omega) (by omega),Ì hi (by omega)];rfl
      ·try dsimp only
       unfold we;rw[Ü,List.take_length]
    ·have h2':Jk day=false:=by simpa using h2
     rw[h2',Ô (by rfl),if_pos (.inr (.inr rfl))]
   ·have h1':l8 ids=false:=by simpa using h1
    rw[h1',Ô (by rfl),if_pos (.inr (.inl rfl))]
 ·rw[Ô (by simp[ine,hc]),if_pos hc]
def qr {α:Type} (p:α→Bool) (l:List α) (i:Nat):((l.take i).filter p).length≤l.length:=by
 have h1:=dO p (l.take i);rw[di] at h1;omega
def WD (x y:Int) (g:Bool):∀m:List (Int×Bool),tR (k:=tI) (v:=.bool) x (OW (k:=tI) (v:=.bool) y g m)=if x=y then some g else tR (k:=tI) (v:=.bool) x m
 |[]=>by
  unfold OW tR kO tR
  by_cases h:x=y<;>simp[h]
 |e::m=>by
  unfold OW
  by_cases h:y=e.1
  ·have:kO tI y e.1=true:=by simp[kO,h]
   rw[this]
   try dsimp only
   unfold tR kO
   by_cases h2:x=y
   ·simp[h2]
   ·have:¬x=e.1:=fun h3=>h2 (h3.trans h.symm);simp[h2,this]
  ·have:kO tI y e.1=false:=by simp[kO,h]
   rw[this]
   try dsimp only
   have ih:=WD x y g m;unfold tR
   by_cases h2:x=e.1
   ·have:kO tI x e.1=true:=by simp[kO,h2]
    rw[this];have:¬x=y:=fun h3=>h (h3.symm.trans h2);simp[this]
   ·have:kO tI x e.1=false:=by simp[kO,h2]
    rw[this];exact ih
def T3 (l:List Int):List (Int×Bool):=l.foldl (fun m x=>OW (k:=tI) (v:=.bool) x true m) []
def yi (l:List Int) (x:Int):T3 (l++[x])=OW (k:=tI) (v:=.bool) x true (T3 l):=by unfold T3; rw[List.foldl_append]; rfl
def acx (x:Int):∀(l:List Int) (m:List (Int×Bool)),tR (k:=tI) (v:=.bool) x (l.foldl (fun m x=>OW (k:=tI) (v:=.bool) x true m) m)=if l.contains x then some true else tR (k:=tI) (v:=.bool) x m
 |[],m=>by simp
 |y::l,m=>by
  rw[fQ,acx x l,WD]
  by_cases h:x=y
  ·subst h; simp
  ·simp[h]
def acv (l:List Int) (x:Int):tR (k:=tI) (v:=.bool) x (T3 l)=if l.contains x then some true else none:=acx x l []
def yg (b:Þ) (s:Int×Int):List Int:=if s.1=3 then(match b.2.2.2.2.1[s.2.toNat]? with|some c=>c.2.2.1++c.2.2.2.1|none=>[]) else(match b.2.1[s.2.toNat]? with|some g=>[g.1]|none=>[])
def Jm (b:Þ) (ss looks:List (Int×Int)):List Int:=ss.flatMap (yg b)++looks.map fun n=>n.1
def BD (ss:List (Int×Int)):List Int:=(ss.filter fun s=>s.1==3).map fun s=>s.2
def tj (w:List Int):Nat→List Cmp→List Cmp
 |_,[]=>[]
 |i,c::t=>if w.contains (i:Int) then c::tj w (i+1) t else tj w (i+1) t
def aix (b:Þ) (ss looks:List (Int×Int)):Þ :=
 (b.1,b.2.1.filter fun g=>(Jm b ss looks).contains g.1,b.2.2.1.filter fun u=>(Jm b ss looks).contains u.1,b.2.2.2.1.filter fun l=>(Jm b ss looks).contains l.1,tj (BD ss) 0 b.2.2.2.2.1,looks)
def apN (b:Þ) (s:Int×Int):Prop:=((s.1=1∨s.1=2)∧0≤s.2∧s.2<b.2.1.length)∨(s.1=3∧0≤s.2∧s.2<b.2.2.2.2.1.length)
def Xd (w:List Int) (c:Cmp):∀(l:List Cmp) (i:Nat),tj w i (l++[c])=tj w i l++if w.contains ((i+l.length:Nat):Int) then[c] else[]
 |[],i=>by simp only[fN,tj,dw,fF]
 |a::l,i=>by
  have e:((i+1+l.length:Nat):Int)=((i+(l.length+1):Nat):Int):=by congr 1; omega
  simp only[eZ,tj,Xd w c l (i+1),dg,e]
  split<;>rfl
def SI (w:List Int):∀(l:List Cmp) (i:Nat),(tj w i l).length≤l.length
 |[],i=>by simp[tj]
 |a::l,i=>by
  have:=SI w l (i+1);simp only[tj]
  split<;>simp only[dg]<;>omega
def Ak {ρ:Type} (x:Int) (l:List Int) (f:Bool→Option ρ) (g:Option ρ):abd (k:=tI) (v:=.bool) x (T3 l) f g=if l.contains x then f true else g:=by
 unfold abd;rw[acv]
 by_cases h:l.contains x=true
 ·rw[if_pos h,if_pos h]
 ·rw[if_neg h,if_neg h]
section
variable {ρ:Type}
def cut_L3 (l:List (Int×Int)) (hl:l.length≤1000) (ids:List Int) (K:List (Int×Int)→Option ρ):Ñ (fun(v47:(Val (.pair tI (.slice Â)))) kk50=>uk l (Ú l) (T3 ids) v47.1 v47.2 (fun u48 u49=>kk50 (u48,u49)) K) ((0:Int),[])=K (l.filter fun u=>ids.contains u.1):=by
 refine ò l (fun i=>(l.take i).filter fun u=>ids.contains u.1) _ rfl (fun i a hi ha kn=>?_) (fun kn=>?_)
 ·try dsimp only
  unfold uk;have h1:=qr (fun u:Int×Int=>ids.contains u.1) l i;rw[Ó hi,É ha,Ak,take_succ ha,List.filter_append]
  by_cases h:ids.contains a.1=true
  ·rw[if_pos h,Ĝ,Ĭ (Ø (by simp only[dI]; omega)),Ì hi (by omega)];simp only[dZ,eo,h,if_pos]
  ·rw[if_neg h,Ì hi (by omega)];simp only[dZ,eo,h,if_neg,dm,not_false_eq_true,dR]
 ·try dsimp only
  unfold uk;rw[Ü,List.take_length]
def cut_L4 (l:List JA) (hl:l.length≤1000) (ids:List Int) (K:List JA→Option ρ):Ñ (fun(v47:(Val (.pair tI (.slice ő)))) kk50=>uj l (Ú l) (T3 ids) v47.1 v47.2 (fun u48 u49=>kk50 (u48,u49)) K) ((0:Int),[])=K (l.filter fun u=>ids.contains u.1):=by
 refine ò l (fun i=>(l.take i).filter fun u=>ids.contains u.1) _ rfl (fun i a hi ha kn=>?_) (fun kn=>?_)
 ·try dsimp only
  unfold uj;have h1:=qr (fun u:JA=>ids.contains u.1) l i;rw[Ó hi,É ha,Ak,take_succ ha,List.filter_append]
  by_cases h:ids.contains a.1=true
  ·rw[if_pos h,Ĝ,Ĭ (Ø (by simp only[dI]; omega)),Ì hi (by omega)];simp only[dZ,eo,h,if_pos]
  ·rw[if_neg h,Ì hi (by omega)];simp only[dZ,eo,h,if_neg,dm,not_false_eq_true,dR]
 ·try dsimp only
  unfold uj;rw[Ü,List.take_length]
def cut_L5 (l:List Cmp) (hl:l.length≤1000) (hp:∀c∈l,c.2.2.1.length≤1000∧c.2.2.2.1.length≤1000) (w:List Int) (K:List Cmp→Option ρ):Ñ (fun(v47:(Val (.pair tI (.slice Ê)))) kk50=>uh l (Ú l) (T3 w) v47.1 v47.2 (fun u48 u49=>kk50 (u48,u49)) K) ((0:Int),[])=K (tj w 0 l):=by
 refine ò l (fun i=>tj w 0 (l.take i)) _ rfl (fun i a hi ha kn=>?_) (fun kn=>?_)
 ·try dsimp only
  unfold uh;have h1:=SI w (l.take i) 0;have h2:=hp a (List.mem_of_getElem? ha)
  have e:(l.take i).length=i:=by rw[di]; omega
  rw[Ó hi,É ha,Ak,take_succ ha,Xd,e,dl]
  by_cases h:w.contains (i:Int)=true
  ·rw[if_pos h,if_pos h,Ĝ,Ĭ (Ø (by omega)),Ĭ (Ø (by omega)),Ĭ (Ø (by simp only[dI]; omega)),Ì hi (by omega)]
  ·rw[if_neg h,if_neg h,Ì hi (by omega)];simp only[dR]
 ·try dsimp only
  unfold uh;rw[Ü,List.take_length]
def cut_L2 (looks:List (Int×Int)) (hl:looks.length≤1000) (ids:List Int) (K:List (Int×Bool)→Option ρ):Ñ (fun(v51:(Val (.pair tI (.map tI .bool)))) kk54=>un looks (Ú looks) v51.1 v51.2 (fun u52 u53=>kk54 (u52,u53)) K) ((0:Int),T3 ids)=K (T3 (ids++looks.map fun n=>n.1)):=by
 refine ò looks (fun i=>T3 (ids++(looks.take i).map fun n=>n.1)) _ (by simp) (fun i a hi ha kn=>?_) (fun kn=>?_)
 ·try dsimp only
  unfold un;rw[Ó hi,É ha,Ì hi (by omega),take_succ ha,List.map_append,←List.append_assoc,List.map_singleton,yi]
 ·try dsimp only
  unfold un;rw[Ü,List.take_length]
def cut_L1 (xs:List Int) (hl:xs.length≤10000) (ids:List Int) (K:List (Int×Bool)→Option ρ):Ñ (fun(v13:(Val (.pair tI (.map tI .bool)))) kk16=>uq xs (Ú xs) v13.1 v13.2 (fun u14 u15=>kk16 (u14,u15)) K) ((0:Int),T3 ids)=K (T3 (ids++xs)):=by
 refine ò xs (fun i=>T3 (ids++xs.take i)) _ (by simp) (fun i a hi ha kn=>?_) (fun kn=>?_)
 ·try dsimp only
  unfold uq;rw[Ó hi,É ha,Ì hi (by omega),take_succ ha,←List.append_assoc,yi]
 ·try dsimp only
  unfold uq;rw[Ü,List.take_length]
end
def Μ {ρ α:Type} {l:List α} {i:Int} (h0:0≤i) {a:α} (h:l[i.toNat]?=some a) (f:α→Option ρ):õ l i f=f a:=by
 obtain⟨n,rfl⟩:=gJ h0;exact É (by simpa using h) f
def cut_ok {b:Þ} (hs:ō b) {ss looks:List (Int×Int)} (h1:ss.length≤1000) (h2:looks.length≤1000) (hv:∀s∈ss,apN b s):Tb b ss looks=some (aix b ss looks):=by
 have g1:=hs.gauges; have g2:=hs.uses; have g3:=hs.loans; have g4:=hs.compares; have g5:=hs.looks;unfold Tb alD Hk;refine ò ss (fun i=>(T3 ((ss.take i).flatMap (yg b)),T3 (BD (ss.take i)))) _ rfl (fun i s hi ha kn=>?_) (fun kn=>?_)
 ·try dsimp only
  unfold A9;have hok:=hv s (List.mem_of_getElem? ha);rw[Ó hi,É ha,take_succ ha,List.flatMap_append]
  have e3:BD (ss.take i++[s])=BD (ss.take i)++if s.1=3 then[s.2] else[]:=by
   unfold BD;rw[List.filter_append,List.map_append];congr 1
   by_cases h:s.1=3<;>simp[h]
  rw[e3];rcases hok with⟨hk,h0,h3⟩|⟨hk,h0,h3⟩
  ·have hg:b.2.1[s.2.toNat]?=some b.2.1[s.2.toNat]:=cQ (by omega);generalize b.2.1[s.2.toNat]=g at hg
   have e1:yg b s=[g.1]:=by
    unfold yg;rw[if_neg (by omega),hg]
   have e2:List.flatMap (yg b) [s]=[g.1]:=by simp[e1]
   rw[Ò (decide_eq_false (by omega)),if_neg (by omega),dR,e2,yi];rcases hk with hk|hk
   ·rw[Ô (decide_eq_true hk),Μ h0 hg,Ì hi (by omega)]
   ·rw[Ò (decide_eq_false (by omega)),Ô (decide_eq_true hk),Μ h0 hg,Ì hi (by omega)]
  ·have hc:b.2.2.2.2.1[s.2.toNat]?=some b.2.2.2.2.1[s.2.toNat]:=cQ (by omega);have hp:=hs.piles b.2.2.2.2.1[s.2.toNat] (ft _);generalize b.2.2.2.2.1[s.2.toNat]=c at hc hp
   have e1:yg b s=c.2.2.1++c.2.2.2.1:=by
    unfold yg;rw[if_pos hk,hc]
   have e2:List.flatMap (yg b) [s]=c.2.2.1++c.2.2.2.1:=by simp[e1]
   rw[Ò (decide_eq_false (by omega)),Ò (decide_eq_false (by omega)),Ò (decide_eq_false (by omega)),Ĭ (decide_eq_true hk),if_pos hk,e2,Μ h0 hc,Μ h0 hc,pD (by simp) (by simp; omega),À];rw[show([c.2.2.1,c.2.2.2.1]:List (List Int)).flatten=c.2.2.1++c.2.2.2.1 by simp];refine(cut_L1 (c.2.2.1++c.2.2.2.1) (by simp; omega) _ _).trans ?_;rw[yi,Ì hi (by omega)]
 ·try dsimp only
  unfold A9;rw[Ü];dsimp only;rw[List.take_length];refine(cut_L2 looks h2 _ _).trans ?_;rw[show(ss.flatMap (yg b)++looks.map fun n=>n.1)=Jm b ss looks from rfl];unfold Bj
  try dsimp only
  rw[Ĭ (Ø (by omega)),À]
  have ek:(List.filter (fun g=>(tR (k:=tI) (v:=.bool) g.1 (T3 (Jm b ss looks))).getD false) b.2.1)=b.2.1.filter fun g=>(Jm b ss looks).contains g.1:=by
   refine List.filter_congr fun g _=>?_;rw[acv]
   cases(Jm b ss looks).contains g.1<;>rfl
  rw[ek];unfold nB;dsimp only;refine(cut_L3 b.2.2.1 g2 _ _).trans ?_;refine(cut_L4 b.2.2.2.1 g3 _ _).trans ?_;refine(cut_L5 b.2.2.2.2.1 g4 hs.piles _ _).trans ?_;rfl
def Fx {α:Type} [DecidableEq α] {l m:List α} (hl:l.length=m.length) (h:Ĩ (fun i a=>if m[i]?=some a then none else some false) 0 l=none):l=m:=by
 have:=iN.1 h;refine gM hl fun i h1 h2=>?_;have h3:=this i l[i] (cQ h1);rw[dl] at h3
 split at h3
 ·rename_i h4;rw[cQ h2] at h4;exact(Option.some.inj h4).symm
 ·cases h3
def Fw {α:Type} [DecidableEq α] {l m:List α} {b:Bool} (h:Ĩ (fun i a=>if m[i]?=some a then none else some false) 0 l=some b):b=false∧l≠m:=by
 constructor
 ·have:∀(k:Nat) (x:List α) (b:Bool),Ĩ (fun i a=>if m[i]?=some a then none else some false) k x=some b→b=false:=by
   intro k x
   induction x generalizing k with
   |nil=>intro b h; cases h
   |cons a t ih =>
    intro b h;unfold Ĩ at h
    split at h
    ·rename_i c hc
     split at hc
     ·cases hc
     ·cases hc; cases h; rfl
    ·exact ih _ _ h
  exact this _ _ _ h
 ·intro e;subst e;rw[iN.2 fun j a ha=>by rw[dl,if_pos ha]] at h;cases h
instance dec1:DecidableEq ((Int×Int)×Int):=fun a b=>instDecidableEqProd a b
instance dec2:DecidableEq ((Int×Int)×((Int×Int)×Int)):=fun a b=>instDecidableEqProd a b
instance dec3:DecidableEq (Int×(Int×Int)×((Int×Int)×Int)):=fun a b=>instDecidableEqProd a b
instance dec4:DecidableEq (Int×Int×(Int×Int)×((Int×Int)×Int)):=fun a b=>instDecidableEqProd a b
instance decG:DecidableEq é:=fun a b=>instDecidableEqProd a b
instance decL:DecidableEq JA:=fun a b=>instDecidableEqProd a b
instance decI4:DecidableEq (Int×(Int×(Int×Int))):=fun a b=>instDecidableEqProd a b
instance decI5:DecidableEq (List Int×Int×(Int×(Int×Int))):=fun a b=>instDecidableEqProd a b
instance decI6:DecidableEq (List Int×List Int×Int×(Int×(Int×Int))):=fun a b=>instDecidableEqProd a b
instance decI7:DecidableEq (Int×List Int×List Int×Int×(Int×(Int×Int))):=fun a b=>instDecidableEqProd a b
instance decC:DecidableEq Cmp:=fun a b=>instDecidableEqProd a b
def qW {α:Type} [DecidableEq α] (x:α) (l:List α):Bool:=l.any fun a=>decide (x=a)
def OX {α:Type} [DecidableEq α] {x:α} {l:List α}:qW x l=true↔x∈l:=by
 unfold qW;rw[List.any_eq_true];exact⟨fun⟨a,h1,h2⟩=>by rw[of_decide_eq_true h2]; exact h1,fun h=>⟨x,h,decide_eq_true rfl⟩⟩
def afD {α:Type} [DecidableEq α] (l:List α) (x:α):ige (match l.findIdx? (fun a=>decide (x=a)) with|some j=>(j:Int)|none=>-1) 0=qW x l:=by
 cases h:l.findIdx? (fun a=>decide (x=a)) with
 |none =>
  have:qW x l=false:=by
   cases hm:qW x l with
   |false=>rfl
   |true=>have:=dT.1 h x (OX.1 hm); simp at this
  rw[this];rfl
 |some j =>
  obtain⟨hj,hp,_⟩:=dN.1 h
  have:x∈l:=by rw[of_decide_eq_true hp]; exact ft _
  rw[OX.2 this];exact decide_eq_true (by dsimp only; omega)
def aly {ρ:Type} (o:Option Nat) (f:Int→Option ρ):(match o with|some j=>f (j:Int)|none=>f (-1))=f (match o with|some j=>(j:Int)|none=>-1):=by cases o<;>rfl
def ae1 {l:List (Int×Int)} (hl:l.length≤1000000) (x:Int×Int):ĝ l x=some (qW x l):=by
 unfold ĝ Ũ ο ι
 have e:Ñ (fun(v5:Int) kk7=>Ě l (Ú l) x.1 x.2 v5 (fun u6=>kk7 u6) (fun z3=>some z3) (fun _=>some (-1:Int))) (0:Int)=some (match l.findIdx? (fun a=>decide (x=a)) with|some j=>(j:Int)|none=>-1):=by
  refine(Υ l (fun a=>decide (x=a)) (fun z=>some z) (some (-1)) (fun i a hi ha kn=>?_) (fun kn=>?_)).trans (aly _ some)
  ·try dsimp only
   unfold Ě
   have e:((ü x.1 a.1)&&((ü x.2 a.2)&&true))=decide (x=a):=by
    rw[dJ]; simp[ü,fE]
   rw[Ó hi,É ha,Ì hi (by omega),Ė,e]
  ·try dsimp only
   unfold Ě;rw[Ü]
 rw[e,À];exact congrArg some (afD l x)
def aba {l:List JA} (hl:l.length≤1000000) (x:JA):đ l x=some (qW x l):=by
 unfold đ Ś Ž Ź
 have e:Ñ (fun(v5:Int) kk7=>Đ l (Ú l) x.1 x.2.1.1 x.2.1.2 x.2.2 v5 (fun u6=>kk7 u6) (fun z3=>some z3) (fun _=>some (-1:Int))) (0:Int)=some (match l.findIdx? (fun a=>decide (x=a)) with|some j=>(j:Int)|none=>-1):=by
  refine(Υ l (fun a=>decide (x=a)) (fun z=>some z) (some (-1)) (fun i a hi ha kn=>?_) (fun kn=>?_)).trans (aly _ some)
  ·try dsimp only
   unfold Đ
   have e:((ü x.1 a.1)&&((ü x.2.1.1 a.2.1.1)&&((ü x.2.1.2 a.2.1.2)&&((ü x.2.2 a.2.2)&&true))))=decide (x=a):=by
    rw[dJ]; simp[ü,fE,and_assoc]
   rw[Ó hi,É ha,Ì hi (by omega),Ė,e]
  ·try dsimp only
   unfold Đ;rw[Ü]
 rw[e,À];exact congrArg some (afD l x)
def ae2 {l:List é} (hl:l.length≤1000000) (x:é):ġ l x=some (qW x l):=by
 unfold ġ Ŏ Ť ţ
 have e:Ñ (fun(v5:Int) kk7=>ą l (Ú l) x.1 x.2.1 x.2.2.1 x.2.2.2.1.1 x.2.2.2.1.2 x.2.2.2.2.1.1 x.2.2.2.2.1.2 x.2.2.2.2.2 v5 (fun u6=>kk7 u6) (fun z3=>some z3) (fun _=>some (-1:Int))) (0:Int)=some (match l.findIdx? (fun a=>decide (x=a)) with|some j=>(j:Int)|none=>-1):=by
  refine(Υ l (fun a=>decide (x=a)) (fun z=>some z) (some (-1)) (fun i a hi ha kn=>?_) (fun kn=>?_)).trans (aly _ some)
  ·try dsimp only
   unfold ą
   have e:((ü x.1 a.1)&&((ü x.2.1 a.2.1)&&((ü x.2.2.1 a.2.2.1)&&((ü x.2.2.2.1.1 a.2.2.2.1.1)&&((ü x.2.2.2.1.2 a.2.2.2.1.2)&&((ü x.2.2.2.2.1.1 a.2.2.2.2.1.1)&&((ü x.2.2.2.2.1.2 a.2.2.2.2.1.2)&&((ü x.2.2.2.2.2 a.2.2.2.2.2)&&true))))))))=decide (x=a):=by
    rw[dJ]; simp[ü,fE,and_assoc]
   rw[Ó hi,É ha,Ì hi (by omega),Ė,e]
  ·try dsimp only
   unfold ą;rw[Ü]
 rw[e,À];exact congrArg some (afD l x)
def oD (b:Þ):List Int:=b.2.1.map fun g=>g.1
def ε {α:Type} [DecidableEq α] (x y:List α) (w:α→Bool):Bool:=x.all fun a=>!w a||qW a y
def xS (s b:Þ):Bool :=
 ε s.2.2.2.2.1 b.2.2.2.2.1 (fun _=>true)&&(decide (s.1=b.1)&&(ε s.2.1 b.2.1 (fun _=>true)&&(ε s.2.2.1 b.2.2.1 (fun u=>(oD s).contains u.1)&&(ε b.2.2.1 s.2.2.1 (fun u=>(oD s).contains u.1) &&
  (ε s.2.2.2.1 b.2.2.2.1 (fun u=>(oD s).contains u.1)&&ε b.2.2.2.1 s.2.2.2.1 (fun u=>(oD s).contains u.1))))))
section
variable {ρ:Type}
def LL {α:Type} [DecidableEq α] (x y:List α) (w:α→Bool) (X Y KF:Option ρ) {f:Int→(Int→Option ρ)→Option ρ}
 (h:∀(i:Nat) (a:α),i<x.length→x[i]?=some a→∀kn,f i kn=if !(!w a||qW a y) then(ifb (!(ige (i:Int) 0)) X KF) else kn ((i:Int)+1))
 (hn:∀kn,f x.length kn=Y):Ñ f 0=if ε x y w then Y else KF:=by
 refine(ī x (fun a=>!(!w a||qW a y)) (fun z=>ifb (!(ige z 0)) X KF) KF Y (fun j=>by rw[show ige (j:Int) 0=true from decide_eq_true (by omega)]; rfl) h hn).trans ?_;unfold ε;rw[List.all_eq_not_any_not]
 cases x.any fun a=>!(!w a||qW a y)<;>rfl
def aqJ:@vW ρ=@mI ρ:=rfl
def W9 {x y:List Int} (hl:x.length=y.length) (hx:x.length≤1000000) (k0:Bool→Option ρ) (K:Option ρ) :
 Ñ (fun(v30:Int) kk32=>mI x y (Ú x) v30 (fun u31=>kk32 u31) k0 (fun _=>K)) (0:Int)=if x=y then K else k0 false:=by
 refine(iq x (fun i a=>if y[i]?=some a then none else some false) k0 K (fun i a hi ha kn=>?_) (fun kn=>?_)).trans ?_
 ·try dsimp only
  unfold mI;have hm:y[i]?=some y[i]:=List.getElem?_eq_getElem (by omega);rw[Ó hi,É ha,É hm,Ì hi (by omega),hm,Ė]
  by_cases h:a=y[i]
  ·simp[ine,h]
  ·have h':¬y[i]=a:=fun e=>h e.symm;simp[ine,h,h']
 ·try dsimp only
  unfold mI;rw[Ü]
 ·cases h:Ĩ (fun i a=>if y[i]?=some a then none else some false) 0 x with
  |none=>rw[if_pos (Fx hl h)]
  |some b =>
   obtain⟨h1,h2⟩:=Fw h;rw[if_neg h2,h1]
def akZ {l:List Cmp} (hl:l.length≤1000) (c:Cmp) (hA:c.2.2.1.length≤1000) (hB:c.2.2.2.1.length≤1000) (k0:Int→Option ρ) (K1 KF:Option ρ) (hk:∀j:Nat,k0 (j:Int)=K1) :
 Ñ (fun(v41:Int) kk43=>pZ l (Ú l) c.1 c.2.1 c.2.2.1 c.2.2.2.1 c.2.2.2.2.1 c.2.2.2.2.2.1 c.2.2.2.2.2.2.1 c.2.2.2.2.2.2.2 v41 (fun u42=>kk43 u42) k0 (fun _=>KF)) (0:Int)=if qW c l then K1 else KF:=by
 refine(ī l (fun d=>decide (c=d)) k0 K1 KF hk (fun i d hi hd kn=>?_) (fun kn=>?_)).trans rfl
 ·try dsimp only
  unfold pZ
  have hsplit:(c=d)↔(c.1=d.1∧c.2.1=d.2.1∧c.2.2.2.2.1=d.2.2.2.2.1∧c.2.2.2.2.2.1=d.2.2.2.2.2.1∧(c.2.2.2.2.2.2.1=d.2.2.2.2.2.2.1∧c.2.2.2.2.2.2.2=d.2.2.2.2.2.2.2)∧c.2.2.1=d.2.2.1∧c.2.2.2.1=d.2.2.2.1):=by
   simp only[fE];constructor
   ·rintro⟨a1,a2,a3,a4,a5,a6,a7,a8⟩; exact⟨a1,a2,a5,a6,⟨a7,a8⟩,a3,a4⟩
   ·rintro⟨a1,a2,a5,a6,⟨a7,a8⟩,a3,a4⟩; exact⟨a1,a2,a3,a4,a5,a6,a7,a8⟩
  have hno:∀{P:Prop},¬P→(c=d→P)→(if decide (c=d)=true then k0 (i:Int) else kn ((i:Int)+1))=kn ((i:Int)+1):=fun h1 h2=>by
   rw[if_neg];intro h;exact h1 (h2 (of_decide_eq_true h))
  rw[Ó hi,É hd,Ì hi (by omega)]
  by_cases a1:c.1=d.1
  case neg=>rw[hno a1 (fun e=>(hsplit.1 e).1),Ò (beq_eq_false_iff_ne.2 a1)]
  rw[Ô (beq_iff_eq.2 a1)]
  by_cases a2:c.2.1=d.2.1
  case neg=>rw[hno a2 (fun e=>(hsplit.1 e).2.1),Ò (beq_eq_false_iff_ne.2 a2)]
  rw[Ô (beq_iff_eq.2 a2)]
  by_cases a3:c.2.2.2.2.1=d.2.2.2.2.1
  case neg=>rw[hno a3 (fun e=>(hsplit.1 e).2.2.1),Ò (beq_eq_false_iff_ne.2 a3)]
  rw[Ô (beq_iff_eq.2 a3)]
  by_cases a4:c.2.2.2.2.2.1=d.2.2.2.2.2.1
  case neg=>rw[hno a4 (fun e=>(hsplit.1 e).2.2.2.1),Ò (beq_eq_false_iff_ne.2 a4)]
  rw[Ô (beq_iff_eq.2 a4)]
  by_cases a5:c.2.2.2.2.2.2.1=d.2.2.2.2.2.2.1∧c.2.2.2.2.2.2.2=d.2.2.2.2.2.2.2
  case neg=>rw[hno a5 (fun e=>(hsplit.1 e).2.2.2.2.1),Ò (by simp only[ü,fq,gi,decide_eq_false_iff_not]; exact Decidable.not_and_iff_or_not.1 a5)]
  rw[Ô (by simp[ü,a5.1,a5.2]),á,á,á,á]
  have rest:∀X Y:Option ρ,(c.2.2.1=d.2.2.1)→(if decide (c=d)=true then k0 (i:Int) else kn ((i:Int)+1))=(if c.2.2.2.1=d.2.2.2.1 then k0 (i:Int) else kn ((i:Int)+1)):=by
   intro _ _ h
   by_cases g:c.2.2.2.1=d.2.2.2.1
   ·rw[if_pos (decide_eq_true (hsplit.2 ⟨a1,a2,a3,a4,a5,h,g⟩)),if_pos g]
   ·rw[if_neg g]; exact hno g (fun e=>(hsplit.1 e).2.2.2.2.2.2)
  by_cases l1:c.2.2.1.length=d.2.2.1.length
  case neg =>
   rw[hno l1 (fun e=>by rw[e]),Ô (bne_iff_ne.2 (by omega))]
  rw[Ò (by rw[l1]; exact bne_self_eq_false' _)];have e3:=W9 (ρ:=ρ) l1 (by omega);rw[á] at e3;rw[e3]
  by_cases g1:c.2.2.1=d.2.2.1
  case neg=>rw[if_neg g1,å,hno g1 (fun e=>(hsplit.1 e).2.2.2.2.2.1)]
  rw[if_pos g1,rest none none g1]
  by_cases l2:c.2.2.2.1.length=d.2.2.2.1.length
  case neg =>
   rw[Ô (bne_iff_ne.2 (by omega)),if_neg (fun e=>l2 (by rw[e]))]
  rw[Ò (by rw[l2]; exact bne_self_eq_false' _),aqJ];have e4:=W9 (ρ:=ρ) l2 (by omega);rw[á] at e4;rw[e4,å]
 ·try dsimp only
  unfold pZ;rw[Ü]
def aqI:@mH ρ=@kJ ρ:=rfl
def aqH:@Ę ρ=@Ņ ρ:=rfl
def art {x y:List é} (hx:x.length≤1000) (hy:y.length≤1000) (X Y KF:Option ρ):Ñ (fun(v225:Int) kk227=>pY x (Ú x) y v225 (fun u226=>kk227 u226) (fun z=>ifb (!(ige z 0)) X KF) (fun _=>Y)) (0:Int)=if ε x y (fun _=>true) then Y else KF:=by
 refine LL x y (fun _=>true) X Y KF (fun i a hi ha kn=>?_) (fun kn=>?_)
 ·try dsimp only
  unfold pY;rw[Ó hi,É ha,ae2 (by omega),À,Ì hi (by omega),Ė];simp
 ·try dsimp only
  unfold pY;rw[Ü]
def anQ {x y:List (Int×Int)} (hx:x.length≤1000) (hy:y.length≤1000) (ids:List Int) (X Y KF:Option ρ):Ñ (fun(v225:Int) kk227=>kJ x (Ú x) (T3 ids) y v225 (fun u226=>kk227 u226) (fun z=>ifb (!(ige z 0)) X KF) (fun _=>Y)) (0:Int)=if ε x y (fun u=>ids.contains u.1) then Y else KF:=by
 refine LL x y (fun u=>ids.contains u.1) X Y KF (fun i a hi ha kn=>?_) (fun kn=>?_)
 ·try dsimp only
  unfold kJ;rw[Ó hi,É ha,Ak,ae1 (by omega),À]
  by_cases h:ids.contains a.1=true
  ·rw[if_pos h,Ĝ,Ì hi (by omega),Ė,h];simp
  ·rw[if_neg h,Ì hi (by omega)];have h':=Bool.not_eq_true _▸h;rw[h'];simp
 ·try dsimp only
  unfold kJ;rw[Ü]
def anP {x y:List JA} (hx:x.length≤1000) (hy:y.length≤1000) (ids:List Int) (X Y KF:Option ρ):Ñ (fun(v225:Int) kk227=>Ņ x (Ú x) (T3 ids) y v225 (fun u226=>kk227 u226) (fun z=>ifb (!(ige z 0)) X KF) (fun _=>Y)) (0:Int)=if ε x y (fun u=>ids.contains u.1) then Y else KF:=by
 refine LL x y (fun u=>ids.contains u.1) X Y KF (fun i a hi ha kn=>?_) (fun kn=>?_)
 ·try dsimp only
  unfold Ņ;rw[Ó hi,É ha,Ak,aba (by omega),À]
  by_cases h:ids.contains a.1=true
  ·rw[if_pos h,Ĝ,Ì hi (by omega),Ė,h];simp
  ·rw[if_neg h,Ì hi (by omega)];have h':=Bool.not_eq_true _▸h;rw[h'];simp
 ·try dsimp only
  unfold Ņ;rw[Ü]
def ars {x y:List JA} (hx:x.length≤1000) (hy:y.length≤1000) (ids:List Int) (k:Bool→Option ρ):Ñ (fun(v225:Int) kk227=>Ņ x (Ú x) (T3 ids) y v225 (fun u226=>kk227 u226) (fun z=>k (!(ige z 0))) (fun _=>k true)) (0:Int)=k (ε x y (fun u=>ids.contains u.1)):=by
 have h:=anP (ρ:=ρ) hx hy ids (k true) (k true) (k false)
 have e:(fun z:Int=>ifb (!(ige z 0)) (k true) (k false))=fun z=>k (!(ige z 0)):=by
  funext z
  cases(!(ige z 0))<;>rfl
 rw[e] at h;rw[h]
 cases ε x y (fun u=>ids.contains u.1)<;>rfl
def aru {x y:List Cmp} (hx:x.length≤1000) (hp:∀c∈x,c.2.2.1.length≤1000∧c.2.2.2.1.length≤1000) (hy:y.length≤1000) (K:Option Bool):Ñ (fun(v228:Int) kk230=>qd x (Ú x) y v228 (fun u229=>kk230 u229) (fun z44=>some z44) (fun _=>K)) (0:Int)=if (x.all fun c=>qW c y)=true then K else some false:=by
 refine(ī x (fun c=>!qW c y) (fun _=>some false) (some false) K (fun _=>rfl) (fun i c hi hc kn=>?_) (fun kn=>?_)).trans ?_
 rotate_left
 ·try dsimp only
  unfold qd;rw[Ü]
 ·rw[List.all_eq_not_any_not]
  cases x.any fun c=>!qW c y<;>rfl
 ·try dsimp only
  unfold qd;have h:=hp c (List.mem_of_getElem? hc);rw[Ó hi,É hc];refine(akZ hy c h.1 h.2 _ (kn ((i:Int)+1)) (some false) (fun j=>by rw[show ige (j:Int) 0=true from decide_eq_true (by omega),Ì hi (by omega)]; rfl)).trans ?_
  cases qW c y<;>rfl
end
def part_ok {s b:Þ} (hs:ō s) (hb:ō b):I4 s b=some (xS s b):=by
 have g1:=hs.gauges; have g2:=hs.uses; have g3:=hs.loans; have g4:=hs.compares;have b1:=hb.gauges; have b2:=hb.uses; have b3:=hb.loans; have b4:=hb.compares;unfold I4 Zg xS;rw[aqI,aqH];refine(ò s.2.1 (fun i=>T3 (oD (s.1,s.2.1.take i,s.2.2))) (some _) rfl (fun i g hi hg kn=>?_) (fun kn=>?_))
 ·try dsimp only
  unfold vX;rw[Ó hi,É hg,Ì hi (by omega)];unfold oD;dsimp only;rw[take_succ hg,List.map_append,List.map_singleton,yi]
 ·try dsimp only
  unfold vX;rw[Ü,List.take_length]
  try dsimp only
  rw[show oD (s.1,s.2.1,s.2.2)=oD s from rfl];refine(aru g4 hs.piles b4 _).trans ?_;rw[show(ε s.2.2.2.2.1 b.2.2.2.2.1 fun _=>true)=s.2.2.2.2.1.all fun c=>qW c b.2.2.2.2.1 from rfl]
  by_cases hc:(s.2.2.2.2.1.all fun c=>qW c b.2.2.2.2.1)=true
  case neg=>rw[if_neg hc,eF.2 hc]; rfl
  rw[if_pos hc,hc,dX]
  by_cases hf:s.1=b.1
  case neg =>
   have ef:(ü s.1.1 b.1.1&&(ü s.1.2 b.1.2&&true))=false:=by
    rw[fE] at hf;simp[ü];omega
   rw[ef,å,decide_eq_false hf];rfl
  have ef:(ü s.1.1 b.1.1&&(ü s.1.2 b.1.2&&true))=true:=by simp[ü,hf]
  rw[ef,Ĝ,decide_eq_true hf,dX];refine(art g1 b1 _ _ _).trans ?_;cases ε s.2.1 b.2.1 fun _=>true
  case false=>rfl
  rw[if_pos rfl,dX];refine(anQ g2 b2 _ _ _ _).trans ?_;cases ε s.2.2.1 b.2.2.1 fun u=>(oD s).contains u.1
  case false=>rfl
  rw[if_pos rfl,dX];refine(anQ b2 g2 _ _ _ _).trans ?_;cases ε b.2.2.1 s.2.2.1 fun u=>(oD s).contains u.1
  case false=>rfl
  rw[if_pos rfl,dX];refine(anP g3 b3 _ _ _ _).trans ?_;cases ε s.2.2.2.1 b.2.2.2.1 fun u=>(oD s).contains u.1
  case false=>rfl
  rw[if_pos rfl,dX];exact ars b3 g3 _ some
def jw (x:List Int) (y:List Int) (l:Lk):List Int:=if gv x l.2.1=Ģ then y else y.set l.1.toNat (min (gv y l.1) (l.2.2+gv x l.2.1))
def Xt (L:List Lk) (N:Nat) (x:List Int):List Int:=L.foldl (jw x) (List.replicate N Ģ)
def exL (L:List Lk) (N:Nat) (to:Int):Nat→List Int
 |0=>(List.replicate N Ģ).set to.toNat 0
 |k+1=>Xt L N (exL L N to k)
def lW (L:List Lk) (N:Nat) (to:Int) (most:Nat):List (List Int):=(List.range (most+1)).map (exL L N to)
section
variable {L:List Lk} {N:Nat}
def Lu (x y:List Int) (l:Lk):(jw x y l).length=y.length:=by unfold jw; split<;>simp
def Lv (x:List Int):∀(M:List Lk) (y:List Int),(M.foldl (jw x) y).length=y.length
 |[],y=>rfl
 |l::M,y=>by rw[fQ,Lv x M,Lu]
def ajL (x:List Int):(Xt L N x).length=N:=by unfold Xt; rw[Lv]; simp
def agD (to:Int) (k:Nat):(exL L N to k).length=N:=by
 cases k with
 |zero=>simp[exL]
 |succ k=>exact ajL _
def Lim (B:Int) (x:List Int):Prop:=∀v:Int,gv x v≠Ģ→-B≤gv x v∧gv x v≤B
def gv_out {x:List Int} {v:Int} (h:¬v.toNat<x.length):gv x v=0:=by
 unfold gv;rw[List.getElem?_eq_none (by omega)];rfl
def aag {B:Int} (hB:0≤B):Lim B (List.replicate N Ģ):=by
 intro v hv
 by_cases h:v.toNat<N
 ·exfalso; apply hv;unfold gv;rw[List.getElem?_replicate,if_pos h];rfl
 ·rw[gv_out (by simpa using h)]; omega
def alV {B:Int} {y:List Int} (hy:Lim B y) {u:Int} (hu:0≤u) (hl:u.toNat<y.length) {a:Int} (ha:a≠Ģ→-B≤a∧a≤B):Lim B (y.set u.toNat a):=by
 intro v hv
 by_cases h:v.toNat=u.toNat
 ·have:gv (y.set u.toNat a) v=a:=by
   unfold gv;rw[h,List.getElem?_set_self hl];rfl
  rw[this] at hv ⊢;exact ha hv
 ·have:gv (y.set u.toNat a) v=gv y v:=by
   unfold gv;rw[List.getElem?_set_ne (fun e=>h e.symm)]
  rw[this] at hv ⊢;exact hy v hv
def ah3 (hS:Ħ L N) {B:Int} (hB:0≤B) (hB2:B≤1000000000000000000) {x y:List Int} (hx:Lim B x) (hy:Lim (B+4503599627370496) y) (hl:y.length=N) {l:Lk} (hm:l∈L):Lim (B+4503599627370496) (jw x y l):=by
 unfold jw
 split
 ·exact hy
 ·rename_i hf;have h1:=hS.inr l hm;have h2:=hS.most l hm;have h3:=hx _ hf;refine alV hy h1.1.1 (by omega) fun ha=>?_
  by_cases h4:gv y l.1=Ģ
  ·rw[h4] at ha ⊢
   have:min Ģ (l.2.2+gv x l.2.1)=l.2.2+gv x l.2.1:=by unfold Ģ; omega
   rw[this]; omega
  ·have:=hy _ h4;omega
def ah4 (hS:Ħ L N) {B:Int} (hB:0≤B) (hB2:B≤1000000000000000000) {x:List Int} (hx:Lim B x):∀(M:List Lk),(∀l∈M,l∈L)→∀y:List Int,y.length=N→Lim (B+4503599627370496) y→Lim (B+4503599627370496) (M.foldl (jw x) y)
 |[],_,y,_,hy=>hy
 |l::M,hM,y,hl,hy=>by
  rw[fQ];exact ah4 hS hB hB2 hx M (fun m hm=>hM m (by simp[hm])) _ (by rw[Lu,hl]) (ah3 hS hB hB2 hx hy hl (hM l (by simp)))
def SE (hS:Ħ L N) {to:Int} (ht:0≤to∧to<N):∀k:Nat,k≤200→Lim (k*4503599627370496) (exL L N to k)
 |0,_=>by
  unfold exL;exact alV (aag (by omega)) ht.1 (by simp; omega) (fun _=>by omega)
 |k+1,hk=>by
  have:=ah4 hS (B:=k*4503599627370496) (by omega) (by omega) (SE hS ht k (by omega)) L (fun _ h=>h) (List.replicate N Ģ) (by simp) (aag (by omega));unfold exL Xt
  have e:(((k+1:Nat):Int)*4503599627370496)=(k:Int)*4503599627370496+4503599627370496:=by push_cast; omega
  rw[e];exact this
def aeq {ρ:Type} (hN:N≤1000) (K:List Int→Option ρ) {f:Int×List Int→(Int×List Int→Option ρ)→Option ρ}
 (hf:∀(v:Int×List Int) kk,f v kk=Bb (N:Int) v.1 v.2 (fun u34 u35=>kk (u34,u35)) K):Ñ f ((0:Int),List.replicate N (0:Int))=K (List.replicate N Ģ):=by
 refine ò (List.replicate N (0:Int)) (fun i=>List.replicate i Ģ++List.replicate (N-i) (0:Int)) _ (by simp) (fun i a hi ha kn=>?_) (fun kn=>?_)
 ·rw[hf];dsimp only;unfold Bb;rw[List.length_replicate] at hi
  have hlen:(List.replicate i Ģ++List.replicate (N-i) (0:Int)).length=N:=by simp; omega
  have e1:ilt (i:Int) (N:Int)=true:=decide_eq_true (by omega);rw[Ô e1,show Ĕ (List.replicate i Ģ++List.replicate (N-i) (0:Int))=(N:Int) by unfold Ĕ; rw[hlen],ĵ (by omega) (by omega),kD (by rw[hlen]; omega),Õ (by omega) (by omega)];congr 2;rw[Int.toNat_natCast];rw[List.set_append_right _ _ (by simp),List.length_replicate,Nat.sub_self];rw[show N-i=(N-(i+1))+1 by omega,List.replicate_succ,List.set_cons_zero,List.replicate_succ'];simp
 ·rw[hf];dsimp only;unfold Bb;rw[List.length_replicate];have e1:ilt (N:Int) (N:Int)=false:=decide_eq_false (by omega);rw[Ò e1];simp
def okN (hN:N≤1000) {ρ:Type} (x:Option ρ):í ((ile (0:Int) (N:Int))&&(ë (Int.toNat (N:Int)))) x=x:=by
 rw[Ĭ];rw[dn,Ø (by omega),fq];exact decide_eq_true (by omega)
def alU {ρ:Type} (hS:Ħ L N) {B:Int} (hB:0≤B) (hB2:B≤1000000000000000000) {x:List Int} (hx:Lim B x) (hxl:x.length=N) (K:List Int→Option ρ) :
 Ñ (fun(v20:(Val (.pair tI (.slice tI)))) kk23=>HE x L (Ú L) v20.1 v20.2 (fun u21 u22=>kk23 (u21,u22)) K) ((0:Int),List.replicate N Ģ)=K (Xt L N x):=by
 have hl3:=hS.len;refine ò L (fun i=>(L.take i).foldl (jw x) (List.replicate N Ģ)) _ rfl (fun i l hi hl kn=>?_) (fun kn=>?_)
 ·try dsimp only
  unfold HE;have hm:=List.mem_of_getElem? hl;have h1:=hS.inr l hm;have h2:=hS.most l hm;rw[Ó hi,É hl,Aq h1.2.1 (by omega),take_succ hl,List.foldl_append,Ì hi (by omega)]
  have hlen:((L.take i).foldl (jw x) (List.replicate N Ģ)).length=N:=by rw[Lv]; simp
  generalize (L.take i).foldl (jw x) (List.replicate N Ģ)=y at hlen ⊢
  by_cases hf:gv x l.2.1=Ģ
  ·rw[Ò (by rw[hf]; rfl)];simp only[List.foldl_cons,List.foldl_nil];unfold jw;rw[if_pos hf]
  ·have h3:=hx _ hf;rw[Ô (bne_iff_ne.2 hf),show Ĕ y=(N:Int) by unfold Ĕ; rw[hlen],ĵ h1.1.1 h1.1.2,kD (by omega),Aq h1.2.1 (by omega),Õ (by omega) (by omega),ĵ h1.1.1 h1.1.2,kD (by omega),Ì hi (by omega)];simp only[List.foldl_cons,List.foldl_nil];unfold jw;rw[if_neg hf,Ap]
 ·try dsimp only
  unfold HE;rw[Ü,List.take_length];rfl
def ao4 {ρ:Type}:@Zz ρ=@Bb ρ:=rfl
def jP (to:Int) (m:Nat):(lW L N to m).length=m+1:=by simp[lW]
def vl {to:Int} {m k:Nat} (hk:k≤m):(lW L N to m)[k]?=some (exL L N to k):=by
 unfold lW;rw[List.getElem?_map,List.getElem?_range (by omega)];rfl
def ao3 (hS:Ħ L N) {to:Int} (ht:0≤to∧to<N) {most:Nat} (hm:most≤100):Az ((N:Int),L) to (most:Int)=some (lW L N to most):=by
 have hN:=hS.n60
 unfold Az Rv
 dsimp only;rw[okN (by omega),Int.toNat_natCast];refine(aeq (by omega) _ (fun v kk=>by rw[á,List.length_replicate])).trans ?_;rw[show Ĕ (List.replicate N Ģ)=(N:Int) by simp[Ĕ],ĵ ht.1 ht.2,kD (by simp; omega)];refine ò (List.replicate most ()) (fun i=>lW L N to i) _ (by simp[lW,exL]) (fun i a hi ha kn=>?_) (fun kn=>?_)
 ·try dsimp only
  unfold O0;rw[List.length_replicate] at hi;have e1:ilt (i:Int) (most:Int)=true:=decide_eq_true (by omega);rw[Ô e1,á,jP]
  have e2:(((i+1:Nat):Int)-1)=(i:Int):=by omega
  rw[e2,Õ (by omega) (by omega),show Ĕ (lW L N to i)=((i+1:Nat):Int) by unfold Ĕ; rw[jP],ĵ (by omega) (by omega),Int.toNat_natCast,oK (vl (Nat.le_refl i)),okN (by omega),Int.toNat_natCast];rw[ao4];refine(aeq (by omega) _ (fun v kk=>by rw[á,List.length_replicate])).trans ?_;refine(alU hS (B:=i*4503599627370496) (by omega) (by omega) (SE hS ht i (by omega)) (agD _ _) _).trans ?_;rw[Ĭ (Ø (by simp only[jP,List.length_singleton]; omega)),Õ (by omega) (by omega)];congr 2;unfold lW;rw[List.range_succ (n:=i+1),List.map_append];rfl
 ·try dsimp only
  unfold O0;rw[List.length_replicate];have e1:ilt (most:Int) (most:Int)=false:=decide_eq_false (by omega);rw[Ò e1]
def PQ (L:List Lk) (x:List Int) (good:Int→Bool) (u sum:Int):Option Nat:=L.findIdx? fun l=>l.1==u&&(decide (gv x l.2.1≠Ģ)&&good (sum+l.2.2+gv x l.2.1))
def mO (L:List Lk) (rest:Nat→List Int) (good:Int→Bool):Nat→Int→Int→List Int→List Int
 |0,_,_,out=>out
 |k+1,u,sum,out=>match PQ L (rest k) good u sum with
  |some i=>mO L rest good k (L[i]?.getD (0,0,0)).2.1 (sum+(L[i]?.getD (0,0,0)).2.2) (out++[(i:Int)])
  |none=>mO L rest good k u sum out
def folL {ρ:Type} (good:Int→Bool) (c0:Int) (c1:List (List Int)) (c2:List Lk) (c3:Int) (v0:Int) (v1:Int) (v2:Int) (v3:List Int) (kn:Int→Int→Int→List Int→Option ρ) (k0:Int×Int×List Int→Option ρ):Option ρ :=
 ifb (ilt v2 c3) (õ c2 v2 fun e7=>ifb (ieq e7.1 v0) (ck (c0-(1:Int)) fun n8=>õ c1 n8 fun e9=>õ e9 e7.2.1 fun e10=>ifb (ine e10 (1152921504606846976:Int)) (ck (v1+e7.2.2) fun n11=>ck (c0-(1:Int)) fun n12=>õ c1 n12 fun e13=>õ e13 e7.2.1 fun e14=>ck (n11+e14) fun n15=>ifb (good n15) (í (ë ((List.length v3)+(List.length ([v2])))) (ck (v1+e7.2.2) fun n16=>k0 (e7.2.1,n16,(v3++([v2]))))) (ck (v2+(1:Int)) fun n17=>kn v0 v1 n17 v3)) (ck (v2+(1:Int)) fun n18=>kn v0 v1 n18 v3)) (ck (v2+(1:Int)) fun n19=>kn v0 v1 n19 v3)) (k0 (v0,v1,v3))
def aqZ {ρ:Type} (hS:Ħ L N) (good:Int→Bool) {rest:List (List Int)} {k:Nat} {x:List Int} (hr:rest[k]?=some x) (hk:k≤100) (hx:Lim 1000000000000000000 x) (hxl:x.length=N) {u sum:Int} (hs : -1000000000000000000≤sum∧sum≤1000000000000000000) {out:List Int} (ho:out.length≤1000)
 (K:Int×Int×List Int→Option ρ):Ñ (fun(v:Int×Int×Int×List Int) kk=>folL good ((k+1:Nat):Int) rest L (Ú L) v.1 v.2.1 v.2.2.1 v.2.2.2 (fun a b c d=>kk (a,b,c,d)) K) (u,sum,(0:Int),out) =
  match PQ L x good u sum with|some i=>K ((L[i]?.getD (0,0,0)).2.1,sum+(L[i]?.getD (0,0,0)).2.2,out++[(i:Int)])|none=>K (u,sum,out):=by
 have hl3:=hS.len;refine ņ (fun v=>∃i:Nat,i≤L.length∧v=(u,sum,(i:Int),out)∧∀j l,j<i→L[j]?=some l→(l.1==u&&(decide (gv x l.2.1≠Ģ)&&good (sum+l.2.2+gv x l.2.1)))=false) (fun v=>L.length-v.2.2.1.toNat) ?_ ⟨0,by omega,rfl,fun j l h=>by omega⟩;rintro v ⟨i,hi,rfl,hp⟩
 have e0:(((k+1:Nat):Int)-1)=(k:Int):=by omega
 rcases dz i L.length with h2|h2
 ·have hl:L[i]?=some L[i]:=cQ h2;generalize L[i]=l at hl;have hm:=cZ hl;have h1:=hS.inr l hm;have h4:=hS.most l hm
  have hstep:(l.1==u&&(decide (gv x l.2.1≠Ģ)&&good (sum+l.2.2+gv x l.2.1)))=false→∃y,(∃i:Nat,i≤L.length∧y=(u,sum,(i:Int),out)∧∀j l,j<i→L[j]?=some l→(l.1==u&&(decide (gv x l.2.1≠Ģ)&&good (sum+l.2.2+gv x l.2.1)))=false)∧(L.length-y.2.2.1.toNat<L.length-((u,sum,(i:Int),out):Int×Int×Int×List Int).2.2.1.toNat)∧y=(u,sum,(i:Int)+1,out):=fun hf =>
   ⟨_,⟨i+1,h2,by rw[show((i+1:Nat):Int)=(i:Int)+1 by push_cast; rfl],fun j m hj hm=>by
    rcases Nat.lt_succ_iff_lt_or_eq.1 hj with h|rfl
    ·exact hp j m h hm
    ·rw[hl] at hm; cases hm; exact hf⟩,by simp; omega,rfl⟩
  by_cases hf:(l.1==u&&(decide (gv x l.2.1≠Ģ)&&good (sum+l.2.2+gv x l.2.1)))=true
  ·refine .inl fun kn=>?_
   have hfi:PQ L x good u sum=some i:=by
    unfold PQ;rw[List.findIdx?_eq_some_iff_getElem];obtain⟨hh,rfl⟩:=List.getElem?_eq_some_iff.1 hl;exact⟨h2,hf,fun j hj=>by have:=hp j _ hj (List.getElem?_eq_getElem (by omega)); rw[this]; simp⟩
   rw[hfi];simp only[Bool.and_eq_true,beq_iff_eq,decide_eq_true_eq] at hf;have h5:=hx _ hf.2.1;dsimp only;unfold folL
   rw[Ó h2,É hl,Ô (by simp[hf.1]),e0,Õ (by omega) (by omega),É hr,Aq h1.2.1 (by omega),Ô (bne_iff_ne.2 hf.2.1),Õ (by omega) (by omega),Õ (by omega) (by omega),É hr,Aq h1.2.1 (by omega),Õ (by omega) (by omega),Ô hf.2.2,
    Ĭ (Ø (by simp; omega)),Õ (by omega) (by omega),hl]
   rfl
  ·have hf':=Bool.not_eq_true _▸hf;obtain⟨y,hy1,hy2,rfl⟩:=hstep hf';refine .inr ⟨_,hy1,hy2,fun kn=>?_⟩;dsimp only;unfold folL;rw[Ó h2,É hl,Ì h2 (by omega)]
   by_cases g1:l.1=u
   ·rw[Ô (by simp[g1]),e0,Õ (by omega) (by omega),É hr,Aq h1.2.1 (by omega)]
    by_cases g2:gv x l.2.1=Ģ
    ·rw[Ò (by rw[g2]; rfl)]
    ·have h5:=hx _ g2
     have g3:good (sum+l.2.2+gv x l.2.1)=false:=by simpa[g1,g2] using hf'
     rw[Ô (bne_iff_ne.2 g2),Õ (by omega) (by omega),Õ (by omega) (by omega),É hr,Aq h1.2.1 (by omega),Õ (by omega) (by omega),Ò g3]
   ·rw[Ò (by simpa using g1)]
 ·refine .inl fun kn=>?_
  obtain rfl:i=L.length:=by omega
  have hfi:PQ L x good u sum=none:=by
   unfold PQ;rw[List.findIdx?_eq_none_iff];intro l hl;obtain⟨j,hj,rfl⟩:=List.mem_iff_getElem.1 hl;exact hp j _ hj (List.getElem?_eq_getElem hj)
  rw[hfi];dsimp only;unfold folL;rw[Ü]
def aqY {ρ:Type} (good:Int→Bool) (c0:List (List Int)) (c6:List Lk) (v0:Int) (v1:Int) (v2:Int) (v3:List Int) (kn:Int→Int→Int→List Int→Option ρ) (k0:List Int→Option ρ):Option ρ :=
 ifb (igt v1 (0:Int)) (Ñ (fun(v22:Int×Int×Int×List Int) kk27=>folL good v1 c0 c6 (Ú c6) v22.1 v22.2.1 v22.2.2.1 v22.2.2.2 (fun u23 u24 u25 u26=>kk27 (u23,u24,u25,u26)) (fun z20=>ck (v1-(1:Int)) fun n21=>kn z20.1 n21 z20.2.1 z20.2.2)) (v0,v2,(0:Int),v3)) (k0 v3)
def apq {ρ:Type} (c0:List (List Int)) (c4:Int) (c6:List Lk):@se ρ c0 c4 c6=aqY (fun n=>ieq n c4) c0 c6:=rfl
def aqX {ρ:Type} (hS:Ħ L N) (good:Int→Bool) {rest:List (List Int)} {R:Nat→List Int} {k0:Nat} (hk:k0≤100) (hr:∀k,k<k0→rest[k]?=some (R k)) (hx:∀k,k<k0→Lim 900000000000000000 (R k)∧(R k).length=N) (u:Int) (K:List Int→Option ρ) :
 Ñ (fun(v:Int×Int×Int×List Int) kk=>aqY good rest L v.1 v.2.1 v.2.2.1 v.2.2.2 (fun a b c d=>kk (a,b,c,d)) K) (u,(k0:Int),(0:Int),[])=K (mO L R good k0 u 0 []):=by
 have key:=qk (f:=fun(v:Int×Int×Int×List Int) kk=>aqY good rest L v.1 v.2.1 v.2.2.1 v.2.2.2 (fun a b c d=>kk (a,b,c,d)) K) (F:=fun v=>K (mO L R good v.2.1.toNat v.1 v.2.2.1 v.2.2.2))
  (fun v=>∃k:Nat,v.2.1=k∧k≤k0∧(-(((k0-k:Nat):Int)*4503599627370496)≤v.2.2.1∧v.2.2.1≤((k0-k:Nat):Int)*4503599627370496)∧v.2.2.2.length≤k0-k) (fun v=>v.2.1.toNat) (fun v hv kn hk=>?_) (x:=(u,(k0:Int),0,[])) ⟨k0,rfl,cR _,by simp,by simp⟩
 ·rw[key]; simp
 ·obtain⟨u,k',sum,out⟩:=v;obtain⟨k,e,h1,h2,h3⟩:=hv;dsimp only at e h2 h3 hk ⊢;subst e;rw[Int.toNat_natCast] at hk ⊢;unfold aqY
  cases k with
  |zero =>
   rw[Ò (by rfl)];rfl
  |succ k =>
   rw[Ô (decide_eq_true (by omega))];have hh:=hx k (by omega)
   have hlim:Lim 1000000000000000000 (R k):=fun v hv=>by have:=hh.1 v hv; omega
   refine(aqZ hS good (hr k (by omega)) (by omega) hlim hh.2 (by omega) (by omega) _).trans ?_;unfold mO
   have e0:(((k+1:Nat):Int)-1)=(k:Int):=by omega
   cases hn:PQ L (R k) good u sum with
   |none =>
    dsimp only;rw[e0,Õ (by omega) (by omega),hk _ ⟨k,rfl,by omega,by dsimp only; omega,by dsimp only; omega⟩ (by simp)];simp
   |some i =>
    have hi:i<L.length:=by
     unfold PQ at hn;exact(List.findIdx?_eq_some_iff_getElem.1 hn).1
    have hl:L[i]?=some L[i]:=List.getElem?_eq_getElem hi;have h4:=hS.most L[i] (List.getElem_mem _);dsimp only;rw[hl];simp only[Option.getD_some];rw[e0,Õ (by omega) (by omega),hk _ ⟨k,rfl,by omega,by dsimp only; omega,by simp; omega⟩ (by simp)];simp
def DN (L:List Lk) (N:Nat) (u v:Int):List Int×Int :=
 if (g9 L N u v).2≠0 then([],(g9 L N u v).2) else
 match (lW L N v N).findIdx? (fun x=>gv x u==(g9 L N u v).1) with
 |some k=>(mO L (exL L N v) (fun n=>ieq n (g9 L N u v).1) k u 0 [],0)
 |none=>([],0)
def aiY (hS:Ħ L N) {u v:Int} (hu:0≤u∧u<N) (hv:0≤v∧v<N):AB ((N:Int),L) u v=some (DN L N u v):=by
 have hN:=hS.n60;unfold AB RJ DN;rw[Ph hS hu hv,À]
 by_cases h:(g9 L N u v).2=0
 ·rw[Ò (by rw[h]; rfl),if_neg (by simp[h]),ao3 hS hv (by omega),À];rw[apq]
  let k0:Int→Option (List Int×Int):=fun j=>Ñ (fun(v29:Int×Int×Int×List Int) kk34=>aqY (fun n=>ieq n (g9 L N u v).1) (lW L N v N) L v29.1 v29.2.1 v29.2.2.1 v29.2.2.2 (fun u30 u31 u32 u33=>kk34 (u30,u31,u32,u33)) (fun z28=>some ((z28,(0:Int)):List Int×Int))) (u,j,(0:Int),[])
  refine(Υ (lW L N v N) (fun x=>gv x u==(g9 L N u v).1) k0 (k0 (-1)) (fun i x hi hx kn=>?_) (fun kn=>?_)).trans ?_
  rotate_left
  ·try dsimp only
   unfold sf;rw[Ü]
  ·have hex:∀k,k<N+1→(lW L N v N)[k]?=some (exL L N v k):=fun k hk=>vl (by omega)
   have hlim:∀k,k<N+1→Lim 900000000000000000 (exL L N v k)∧(exL L N v k).length=N:=fun k hk=>⟨fun w hw=>by
    have:=SE hS hv k (by omega) w hw; omega,agD _ _⟩
   cases hf:(lW L N v N).findIdx? (fun x=>gv x u==(g9 L N u v).1) with
   |none =>
    have:=qk (f:=fun(v29:Int×Int×Int×List Int) kk34=>aqY (fun n=>ieq n (g9 L N u v).1) (lW L N v N) L v29.1 v29.2.1 v29.2.2.1 v29.2.2.2 (fun u30 u31 u32 u33=>kk34 (u30,u31,u32,u33)) (fun z28=>some ((z28,(0:Int)):List Int×Int))) (F:=fun _=>some (([],0):List Int×Int)) (fun v=>v.2.1 = -1∧v.2.2.2=[]) (fun _=>0) (fun x hx kn hk=>by
     unfold aqY;rw[hx.1,hx.2]
     rfl) (x:=(u,(-1:Int),(0:Int),[])) ⟨rfl,rfl⟩
    exact this
   |some k =>
    have hk:=(dN.1 hf).1;rw[jP] at hk;exact aqX hS _ (R:=exL L N v) (by omega) (fun j hj=>hex j (by omega)) (fun j hj=>hlim j (by omega)) u (fun z=>some ((z,(0:Int)):List Int×Int))
  ·try dsimp only
   unfold sf
   have hxl:x.length=N:=by
    have hi':=hi;rw[jP] at hi';rw[vl (by omega)] at hx;cases hx;exact agD _ _
   rw[jP] at hi;rw[á,jP,Ô (decide_eq_true (by omega)),É hx,Aq hu.1 (by omega),Õ (by omega) (by omega),Ė]
 ·rw[Ô (bne_iff_ne.2 h),if_pos h]
end
def akT (f:Int→Int→Int) (z:Int) (l:List Int) (d:Int):Int:=match l with|[]=>z|x::_=>f x d
def Jg (f:Int→Int→Int) (z:Int) (c:Cmp):Int:=akT f z (è c.2.2.1 c.2.2.2.1) c.2.1-akT f z (è c.2.2.2.1 c.2.2.1) c.2.1
structure apY (b:Þ) (f:Int→Int→Int) (z:Int) (g:é):Prop where
 hi:f g.1 g.2.1≤z+(g.2.2.1+g.2.2.2.1.2)
 lo:z+(g.2.2.1+g.2.2.2.1.1)≤f g.1 g.2.1
 down:∀d e,g.2.1≤d→d≤e→f g.1 e≤f g.1 d
 loss:∀d e,g.2.1≤d→d≤e→f g.1 d≤f g.1 e+ip b g d e
structure Pf (b:Þ) (f:Int→Int→Int) (z:Int):Prop where
 gauge:∀g∈b.2.1,apY b f z g
 cmp:∀c∈b.2.2.2.2.1,(Ŵ b c).1≤Jg f z c∧Jg f z c≤(Ŵ b c).2
def aer {b:Þ} (h:Č b) {p:Int→Int} (hg:∀g∈b.2.1,qJ b p g):∃f:Int→Int→Int,(∀g∈b.2.1,apY b f (p 0) g)∧∀g∈b.2.1,∀d∈à b g,f g.1 d=p (Ŷ b g.1 d):=by
 let f:Int→Int→Int:=fun id d=>match ŏ b id with|some g=>fill b p g d|none=>0
 have hfv:∀g∈b.2.1,∀d,f g.1 d=fill b p g d:=fun g hgm d=>by
  show(match ŏ b g.1 with|some g=>fill b p g d|none=>0)=_;rw[Ż h.ids hgm]
 refine⟨f,fun g hgm=>?_,fun g hgm d hd=>by rw[hfv g hgm]; exact O5 h hgm (hg g hgm) hd⟩;have gf:=hg g hgm
 have e0:f g.1 g.2.1=p (Ŷ b g.1 g.2.1):=by rw[hfv g hgm]; exact O5 h hgm gf (kw g)
 refine⟨by rw[e0]; exact gf.hi,by rw[e0]; exact gf.lo,fun d e h0 hde=>?_,fun d e h0 hde=>?_⟩
 ·rw[hfv g hgm,hfv g hgm];exact(IQ h hgm gf h0 hde).1
 ·rw[hfv g hgm,hfv g hgm];exact(IQ h hgm gf h0 hde).2
def abz {b:Þ} {f:Int→Int→Int} {p:Int→Int} (hm:∀g∈b.2.1,∀d∈à b g,f g.1 d=p (Ŷ b g.1 d)) {l:List Int} {day:Int} (hl:∀x∈l,∃g∈b.2.1,g.1=x∧day∈à b g):p (OC b l day)=akT f (p 0) l day:=by
 cases l with
 |nil=>rfl
 |cons x t =>
  obtain⟨g,q1,rfl,q3⟩:=hl x (by simp);exact(hm g q1 day q3).symm
def Tj {b:Þ} {f:Int→Int→Int} {p:Int→Int} (hm:∀g∈b.2.1,∀d∈à b g,f g.1 d=p (Ŷ b g.1 d)) {c:Cmp}
 (hl:∀x,x∈è c.2.2.1 c.2.2.2.1∨x∈è c.2.2.2.1 c.2.2.1→∃g∈b.2.1,g.1=x∧c.2.1∈à b g):p (cx b c)-p (cy b c)=Jg f (p 0) c:=by
 unfold Jg;rw[LA,Lz,abz hm (fun x hx=>hl x (.inl hx)),abz hm (fun x hx=>hl x (.inr hx))]
def Wb {b:Þ} (h:Č b) (f:Int→Int→Int) (z:Int) {l:List Int} {day:Int} (hl:∀x∈l,∃g∈b.2.1,g.1=x∧day∈à b g):Nr b f z (OC b l day)=akT f z l day:=by
 rw[LJ h f z hl];unfold akT
 cases l<;>rfl
def FA {b:Þ} (h:Č b) {f:Int→Int→Int} {z:Int} {c:Cmp} (hl:∀x,x∈è c.2.2.1 c.2.2.2.1∨x∈è c.2.2.2.1 c.2.2.1→∃g∈b.2.1,g.1=x∧c.2.1∈à b g):Nr b f z (cx b c)-Nr b f z (cy b c)=Jg f z c:=by
 unfold Jg;rw[LA,Lz,Wb h f z (fun x hx=>hl x (.inl hx)),Wb h f z (fun x hx=>hl x (.inr hx))]
def JN {b:Þ} (h:Č b) {f:Int→Int→Int} {z:Int} {g:é} (hg:g∈b.2.1) (hh:apY b f z g):qJ b (Nr b f z) g:=by
 have q:∀d∈à b g,Nr b f z (Ŷ b g.1 d)=f g.1 d:=fun d hd=>yl h f z hg hd;have e0:=q g.2.1 (kw g);refine⟨?_,?_,fun d e hd he hde=>?_,fun d e hd he hde=>?_⟩
 ·rw[e0,lg]; exact hh.hi
 ·rw[e0,lg]; exact hh.lo
 ·rw[q d hd,q e he]; exact hh.down d e (h.day hg hd).1 hde
 ·rw[q d hd,q e he]; exact hh.loss d e (h.day hg hd).1 hde
section
variable {b:Þ} {c:Cmp}
def ahE (h:Č b) {p:Int→Int} (hp:Pot (Û b) p):∃f,Pf b f (p 0)∧∀g∈b.2.1,∀d∈à b g,f g.1 d=p (Ŷ b g.1 d):=by
 obtain⟨hg,hc⟩:=(X0 h).1 hp;obtain⟨f,hf,hm⟩:=aer h hg;refine⟨f,⟨hf,fun c hcm=>?_⟩,hm⟩;have:=Tj hm (c:=c) (fun x hx=>nf h hcm hx);have:=hc c hcm;omega
def aic (h:Č b) {f:Int→Int→Int} {z:Int} (hh:Pf b f z):Pot (Û b) (Nr b f z):=by
 refine(X0 h).2 ⟨fun g hg=>JN h hg (hh.gauge g hg),fun c hc=>?_⟩;have:=FA (f:=f) (z:=z) h (c:=c) (fun x hx=>nf h hc hx);have:=hh.cmp c hc;omega
def ais (h:Č b) {d:Cmp} (hd:d∈b.2.2.2.2.1):∀x,x∈è d.2.2.1 d.2.2.2.1∨x∈è d.2.2.2.1 d.2.2.1→∃g∈(î b c).2.1,g.1=x∧d.2.1∈à (î b c) g:=by
 intro x hx;obtain⟨g,q1,q2,q3⟩:=nf h hd hx;exact⟨g,q1,q2,vm q3⟩
def al6 (h:Č b) (h':Č (î b c)) {p:Int→Int} (hp:Pot (ú (î b c)) p):∃f,Pf b f (p 0)∧p (cx (î b c) c)-p (cy (î b c) c)=Jg f (p 0) c:=by
 obtain⟨hg,hc⟩:=(O4 h').1 hp;obtain⟨f,hf,hm⟩:=aer h' hg;refine⟨f,⟨fun g hgm=>?_,fun d hd=>?_⟩,Tj hm fun x hx=>nf h' A5 hx⟩
 ·have:=hf g hgm;exact⟨this.hi,this.lo,this.down,this.loss⟩
 ·have:=Tj hm (c:=d) (ais h hd);have:=hc d hd;omega
def al5 (h:Č b) (h':Č (î b c)) {f:Int→Int→Int} {z:Int} (hh:Pf b f z):Pot (ú (î b c)) (Nr (î b c) f z)∧Nr (î b c) f z (cx (î b c) c)-Nr (î b c) f z (cy (î b c) c)=Jg f z c:=by
 refine⟨(O4 h').2 ⟨fun g hg=>JN h' hg ?_,fun d hd=>?_⟩,FA h' fun x hx=>nf h' A5 hx⟩
 ·have:=hh.gauge g hg;exact⟨this.hi,this.lo,this.down,this.loss⟩
 ·have:=FA (f:=f) (z:=z) h' (c:=d) (ais h hd);have:=hh.cmp d hd;omega
def FW (h:Č b):ħ (Û b) ((Í b).length+1)=true↔∃f z,Pf b f z:=by
 have:=h.sys.n60;rw[Ļ h.sys.links (by omega)];constructor
 ·rintro⟨p,hp⟩;obtain⟨f,hf,_⟩:=ahE h hp;exact⟨f,_,hf⟩
 ·rintro⟨f,z,hh⟩;exact⟨_,aic h hh⟩
def d_max (h:Č b) (h':Č (î b c)) {f:Int→Int→Int} {z:Int} (hh:Pf b f z):dLo b c≤Jg f z c∧Jg f z c≤dHi b c:=by
 have ho:ħ (ú (î b c)) ((Í (î b c)).length+1)=true:=by rw[qo h h']; exact(FW h).2 ⟨f,z,hh⟩
 obtain⟨hp,hd⟩:=al5 h h' hh;have a1:=Ly (jH h') (j8 h') ho (DH h') (DG h') hp;have a2:=Ly (jH h') (j8 h') ho (DG h') (DH h') hp;unfold dLo dHi;omega
def d_all (h:Č b) (h':Č (î b c)) (ho:ħ (Û b) ((Í b).length+1)=true) {t:Int} (h1:dLo b c≤t) (h2:t≤dHi b c):∃f z,Pf b f z∧Jg f z c=t:=by
 rw[←qo h h'] at ho;obtain⟨p,hp,hd⟩:=ams (jH h') (j8 h') ho (DH h') (DG h') h1 h2;obtain⟨f,hf,he⟩:=al6 h h' hp;exact⟨f,_,hf,by rw[←he]; exact hd⟩
def aq6 (h:Č b) (h':Č (î b c)) (ho:ħ (Û b) ((Í b).length+1)=true):dLo b c≤dHi b c:=by
 rw[←qo h h'] at ho;exact Jf (jH h') (j8 h') ho (DH h') (DG h')
structure Pred (b:Þ) (c:Cmp) (s:Int×Int):Prop where
 good:Č b
 good2:Č (î b (Ë c))
 order:agr b c≤E7 b c
 has:∃f z,Pf b f z
 ends:s.1-agr b c≤s.2-E7 b c
 bd : -9007199254740992≤s.1-agr b c∧s.2-E7 b c≤9007199254740992
 all:∀f z,Pf b f z→s.1-agr b c≤Jg f z c∧Jg f z c≤s.2-E7 b c
 each:∀t,s.1-agr b c≤t→t≤s.2-E7 b c→∃f z,Pf b f z∧Jg f z c=t
def abM (hp:(Ł b c).2=0):Pred b c (Ł b c).1:=by
 obtain⟨h,h'⟩:=pl hp;rw[TU h h'] at hp ⊢
 by_cases ho:ħ (Û b) ((Í b).length+1)=true
 ·rw[if_pos ho] at hp ⊢;obtain⟨h1,h2⟩:=afi hp;rw[h2];have e1:agr b (Ë c)=agr b c:=rfl;have e2:E7 b (Ë c)=E7 b c:=rfl;rw[e1,e2] at *
  have s1:dLo b (Ë c)+agr b c-agr b c=dLo b (Ë c):=by omega
  have s2:dHi b (Ë c)+E7 b c-E7 b c=dHi b (Ë c):=by omega
  refine⟨h,h',h1,(FW h).1 ho,?_,?_,fun f z hh=>?_,fun t t1 t2=>?_⟩
  ·simp only;rw[s1,s2];exact aq6 h h' ho
  ·simp only;rw[s1,s2];rw[←qo h h'] at ho;have a1:=air (jH h') (j8 h') ho (DH h') (DG h');have a2:=air (jH h') (j8 h') ho (DG h') (DH h');unfold dLo dHi;omega
  ·simp only;rw[s1,s2];exact d_max (c:=Ë c) h h' hh
  ·simp only at t1 t2;rw[s1] at t1;rw[s2] at t2;exact d_all (c:=Ë c) h h' ho t1 t2
 ·rw[if_neg ho] at hp;simp at hp
end
theorem JI {b:Þ} (h:Č b):(ľ b).length=(Û b).length:=by
 have g0:∀i,((b.2.1.take i).mapIdx (â b)).flatten.length=((b.2.1.take i).flatMap (ä b)).length:=by
  intro i
  induction i with
  |zero=>simp
  |succ i ih =>
   rcases dz i b.2.1.length with hi|hi
   ·have hg:b.2.1[i]?=some b.2.1[i]:=List.getElem?_eq_getElem hi;rw[iG _ hg,take_succ hg,List.flatMap_append,List.flatten_append,List.length_append,List.length_append,ih];congr 1;unfold â ä;simp only[List.flatMap_cons,List.flatMap_nil,List.append_nil,List.flatten_cons,List.flatten_nil,List.length_append];rw[œ _ _ (fun _=>rfl),œ _ _ (fun _=>rfl)];rfl
   ·rw[ee (by omega)] at ih ⊢;exact ih
 have c0:=XB (b:=b) b.2.2.2.2.1.length (Nat.le_refl _);have g1:=g0 b.2.1.length;rw[List.take_length] at c0 g1;unfold ľ Û;rw[List.length_append,List.length_append,g1,c0.1,c0.2]
theorem SP {b:Þ}:∀s∈(b.2.1.mapIdx (â b)).flatten,(s.1=1∨s.1=2)∧0≤s.2∧s.2<b.2.1.length:=by
 intro s hs;obtain⟨l,hl,hm⟩:=List.mem_flatten.1 hs;obtain⟨i,hi,rfl⟩:=List.mem_iff_getElem.1 hl;rw[List.length_mapIdx] at hi;rw[List.getElem_mapIdx] at hm;unfold â at hm;rcases List.mem_append.1 hm with h|h
 ·simp at h; subst h; exact⟨.inl rfl,by dsimp only; omega,by dsimp only; omega⟩
 ·obtain⟨_,_,h⟩:=List.mem_flatMap.1 h;simp at h; subst h; exact⟨.inr rfl,by dsimp only; omega,by dsimp only; omega⟩
theorem Tm {l:List Cmp}:∀s∈(l.mapIdx fun i (_:Cmp)=>[((3:Int),(i:Int)),((3:Int),(i:Int))]).flatten,s.1=3∧0≤s.2∧s.2<l.length:=by
 intro s hs;obtain⟨m,hl,hm⟩:=List.mem_flatten.1 hs;obtain⟨i,hi,rfl⟩:=List.mem_iff_getElem.1 hl;rw[List.length_mapIdx] at hi;rw[List.getElem_mapIdx] at hm;simp at hm; subst hm;exact⟨rfl,by dsimp only; omega,by dsimp only; omega⟩
theorem aoF (b:Þ) (c:Cmp):∃S:List (Int×Int),ľ (î b c)=S++[(3,(b.2.2.2.2.1.length:Int)),(3,(b.2.2.2.2.1.length:Int))]∧∀s∈S,¬(s.1=3∧s.2=(b.2.2.2.2.1.length:Int)):=by
 refine⟨((î b c).2.1.mapIdx (â (î b c))).flatten++(b.2.2.2.2.1.mapIdx fun i (_:Cmp)=>[((3:Int),(i:Int)),((3:Int),(i:Int))]).flatten,?_,fun s hs=>?_⟩
 ·unfold ľ;rw[show(î b c).2.2.2.2.1=b.2.2.2.2.1++[c] from rfl,List.mapIdx_append,List.flatten_append,List.append_assoc];simp
 ·rcases dc.1 hs with h|h
  ·have:=SP s h; omega
  ·have:=Tm s h; omega
theorem Xa (b:Þ) (c:Cmp) (h:Č (î b c)):Û (î b c)=ú (î b c)++[(cy (î b c) c,cx (î b c) c,(Ŵ (î b c) c).2),(cx (î b c) c,cy (î b c) c,-(Ŵ (î b c) c).1)]:=by
 rw[agw];unfold Û;rw[show(î b c).2.2.2.2.1=b.2.2.2.2.1++[c] from rfl,List.flatMap_append,List.append_assoc];simp[û]
def ap7 (b:Þ) (c:Cmp) (s t:Int):Int:=dst (ú (î b c)) ((Í (î b c)).length+1) s t
abbrev End:Type:=Int×Int×Int
abbrev LM:Type:=(Int×Int)×End×End
def endP (b:Þ) (c:Cmp) (s t:Int):End :=
 (ap7 b c s t,ap7 b c s (cy (î b c) c)+(Ŵ b c).2+ap7 b c (cx (î b c) c) t,ap7 b c s (cx (î b c) c)-(Ŵ b c).1+ap7 b c (cy (î b c) c) t)
def worth0:LM:=((0,0),(0,0,0),(0,0,0))
def abe (b:Þ) (n:Int×Int) (c:Cmp):LM :=
 ((Ł b c).1,endP b (Ë c) 0 (mN (î b (Ë c)) n.1 n.2),endP b (Ë c) (mN (î b (Ë c)) n.1 n.2) 0)
def aaj (b:Þ) (n:Int×Int) (c:Cmp):LM×Int:=if (Ł b c).2≠0 then(worth0,(Ł b c).2) else(abe b n c,0)
theorem LY {b:Þ} {c:Cmp} (h:(Ł b c).2=0):ħ (Û b) ((Í b).length+1)=true:=by
 obtain⟨g1,g2⟩:=pl h;rw[TU g1 g2] at h
 by_cases ho:ħ (Û b) ((Í b).length+1)=true
 ·exact ho
 ·rw[if_neg ho] at h; cases h
section
variable {b:Þ} {c:Cmp} (h:Č b) (h':Č (î b c)) (ho:ħ (Û b) ((Í b).length+1)=true)
include h h' ho
theorem tm {s t:Int} (hs:0≤s∧s<((Í (î b c)).length+1:Nat)) (ht:0≤t∧t<((Í (î b c)).length+1:Nat)) : -9007199254740992≤ap7 b c s t∧ap7 b c s t≤9007199254740992 :=
 air (jH h') (j8 h') (by rw[qo h h']; exact ho) hs ht
theorem uR (B:Þ) {s t:Int} (hs:0≤s∧s<((Í (î b c)).length+1:Nat)) (ht:0≤t∧t<((Í (î b c)).length+1:Nat)):Ď (B,(((Í (î b c)).length:Int)+1,ú (î b c))) t s=some (ap7 b c s t):=by
 rw[show(((Í (î b c)).length:Int)+1)=(((Í (î b c)).length+1:Nat):Int) by push_cast; rfl,aeP (jH h') ht hs,vt (jH h') (j8 h') hs ht,if_pos (by rw[qo h h']; exact ho)];rfl
theorem akY:(-4503599627370496≤(Ŵ b c).1∧(Ŵ b c).1≤4503599627370496)∧(-4503599627370496≤(Ŵ b c).2∧(Ŵ b c).2≤4503599627370496):=by
 have hs:=h'.sys;have e:=Xa b c h';have m1:=hs.most (cy (î b c) c,cx (î b c) c,(Ŵ (î b c) c).2) (by rw[e]; simp);have m2:=hs.most (cx (î b c) c,cy (î b c) c,-(Ŵ (î b c) c).1) (by rw[e]; simp);have e2:Ŵ (î b c) c=Ŵ b c:=rfl;rw[e2] at m1 m2;dsimp only at m1 m2;omega
theorem aio (B:Þ) {s t:Int} (hs:0≤s∧s<((Í (î b c)).length+1:Nat)) (ht:0≤t∧t<((Í (î b c)).length+1:Nat)) :
 nS t s (B,(((Í (î b c)).length:Int)+1,ú (î b c))) (cy (î b c) c) (Ŵ b c) (cx (î b c) c)=some (endP b c s t):=by
 have hx:=DH h';have hy:=DG h';have b1:=tm h h' ho hs ht;have b2:=tm h h' ho hs hy;have b3:=tm h h' ho hx ht;have b4:=tm h h' ho hs hx;have b5:=tm h h' ho hy ht;have b6:=akY h h' ho;unfold nS zx;rw[uR h h' ho B hs ht,À,uR h h' ho B hs hy,À,Õ (by omega) (by omega),uR h h' ho B hx ht,À,Õ (by omega) (by omega),uR h h' ho B hs hx,À,Õ (by omega) (by omega),uR h h' ho B hy ht,À,Õ (by omega) (by omega)];rfl
end
theorem abO {B:Þ} (h:Č B) (hn:∀g∈B.2.1,I64 g.2.2.2.2.1.1) (s:Sys) (l:List Int) (c:Cmp):nT l (B,s) c=some (atP (Í B) l c.2.1):=by
 unfold nT zy
 cases l with
 |nil=>rw[á]; rfl
 |cons x t =>
  rw[á,Ò (beq_eq_false_iff_ne.2 (by simp; omega)),show(0:Int)=((0:Nat):Int) from rfl,É (show(x::t)[0]?=some x from rfl),TL h hn,À];rfl
theorem amc {ρ:Type} {b:Þ} {c:Cmp} (h:Č (î b c)) (K:List Lk→Option ρ) :
 Ñ (fun(v17:Val Ï) kk20=>lN (b.2.2.2.2.1.length:Int) (ľ (î b c)) (Û (î b c)) (Ú (Û (î b c))) v17.1 v17.2 (fun u18 u19=>kk20 (u18,u19)) K) ((0:Int),[])=K (ú (î b c)):=by
 have hl3:=h.sys.len;have hsl:=JI h;obtain⟨S,hS,hSk⟩:=aoF b c;have hL:=Xa b c h
 have hSl:S.length=(ú (î b c)).length:=by
  rw[hS,hL,cX,cX] at hsl;simpa using hsl
 generalize ú (î b c)=H at hL hSl ⊢;rw[hS];generalize Û (î b c)=L at hL hsl hl3 ⊢
 have hLl:L.length=H.length+2:=by rw[hL]; simp
 refine ò L (fun i=>(L.take i).take H.length) _ (by simp) (fun i l hi hl kn=>?_) (fun kn=>?_)
 ·try dsimp only
  unfold lN;rw[Ó hi,É hl];rcases Nat.lt_or_ge i H.length with h1|h1
  ·have hs:(S++[((3:Int),(b.2.2.2.2.1.length:Int)),(3,(b.2.2.2.2.1.length:Int))])[i]?=some S[i]:=by
    rw[eN (by omega),cQ]
   have hk:=hSk S[i] (ft _)
   have e:((ü (S[i]).1 (3:Int))&&((ü (S[i]).2 (b.2.2.2.2.1.length:Int))&&true))=false:=by
    simp[ü]; omega
   have e1:(L.take i).take H.length=L.take i:=ee (by rw[di]; omega);have e2:(L.take (i+1)).take H.length=L.take (i+1):=ee (by rw[di]; omega);rw[É hs,e,Ô (by rfl),e1,e2,Ĭ (Ø (by rw[di]; simp; omega)),Ì hi (by omega),take_succ hl]
  ·have hs:(S++[((3:Int),(b.2.2.2.2.1.length:Int)),(3,(b.2.2.2.2.1.length:Int))])[i]?=some ((3:Int),(b.2.2.2.2.1.length:Int)):=by
    rw[eI (by omega)]
    have:i-S.length=0∨i-S.length=1:=by omega
    rcases this with e|e<;>rw[e]<;>rfl
   have e:((ü (3:Int) (3:Int))&&((ü (b.2.2.2.2.1.length:Int) (b.2.2.2.2.1.length:Int))&&true))=true:=by simp[ü]
   have e1:(L.take i).take H.length=(L.take (i+1)).take H.length:=by
    rw[List.take_take,List.take_take];congr 1;omega
   rw[É hs];dsimp only;rw[e,Ò (by rfl),Ì hi (by omega),e1]
 ·try dsimp only
  unfold lN;rw[Ü,List.take_length,hL];simp
theorem ad5 {B:Þ} (hr:anw B) (n:Int×Int) {c:Cmp} (hA:c.2.2.1.length≤1000) (hB:c.2.2.2.1.length≤1000):vc (B,TY B) n c=some (aaj B n c):=by
 unfold vc Kz aaj;have hs:=hr.good.size;rw[show(B,TY B).1=B from rfl,akp hs hr.num hA hB,À]
 by_cases hp:(Ł B c).2=0
 ·obtain⟨g1,g2⟩:=pl hp;have ho:=LY hp
  have e1:AR B (Ë c)=(î B (Ë c),0):=by
   unfold AR;rw[if_neg (by simp[(ì B).2 g1]),if_neg (by simp[(ì _).2 g2])]
  have hn2:∀g∈(î B (Ë c)).2.1,I64 g.2.2.2.2.1.1:=hr.num;have hC:=g2.nC
  have hw:(((î B (Ë c)).2.2.2.2.1.length:Int)-1)=(B.2.2.2.2.1.length:Int):=by simp[î]
  have hSays:apO (î B (Ë c)) (B.2.2.2.2.1.length:Int)=(Ŵ B (Ë c),0):=by
   have e:tC (î B (Ë c)) (B.2.2.2.2.1.length:Int)=(Ë c,0):=by
    unfold tC;rw[if_neg (by simp[(ì _).2 g2]),if_neg (by simp[î]; omega)];simp[î]
   unfold apO;rw[e,if_neg (by simp)];rfl
  have hCancel:TX c.2.2.1 c.2.2.2.1=(è c.2.2.1 c.2.2.2.1,è c.2.2.2.1 c.2.2.1,0):=by
   have hnu:=(Ο _).1 (g2.nums (A5 (c:=Ë c)));have h6:l8 c.2.2.1=true∧l8 c.2.2.2.1=true:=⟨hnu.2.2.2.2.2.1,hnu.2.2.2.2.2.2⟩;unfold TX;rw[h6.1,h6.2];rfl
  rw[Ò (by rw[hp]; rfl),if_neg (by simp[hp]),show ph B (c.1,c.2.1,c.2.2.1,c.2.2.2.1,(0:Int),c.2.2.2.2.2)=ph B (Ë c) from rfl,anr hs hr.num (c:=Ë c) hA hB,À,e1];dsimp only;rw[Ò (by rfl),á,hw,Õ (by omega) (by omega),arl (g2.inn hn2),À,hSays,ae3 (by omega) (by omega),À,hCancel,qI (g2.inn hn2),À,jy g2];dsimp only;refine(amc g2 _).trans ?_;have ex:cx (î B (Ë c)) (Ë c)=atP (Í (î B (Ë c))) (è c.2.2.1 c.2.2.2.1) c.2.1:=rfl;have ey:cy (î B (Ë c)) (Ë c)=atP (Í (î B (Ë c))) (è c.2.2.2.1 c.2.2.1) c.2.1:=rfl;rw[abO g2 hn2,À,abO g2 hn2,À,TL g2 hn2,À,←ex,←ey,aio g1 g2 ho _ (ń _) (ŗ _ n),À,aio g1 g2 ho _ (ŗ _ n) (ń _),À];rfl
 ·rw[Ô (bne_iff_ne.2 hp),if_pos hp];rfl
abbrev akt:Type:=Þ×(Int×Int)×Bool×Int×List Int
def Fg:akt:=(i6,(0,0),false,0,[])
def l7 (L:List Lk):Int→Int→List Int→Int×Int×Bool
 |u,s,[]=>(u,s,true)
 |u,s,i::t=>if (L[i.toNat]?.getD (0,0,0)).1=u then l7 L (L[i.toNat]?.getD (0,0,0)).2.1 (s+(L[i.toNat]?.getD (0,0,0)).2.2) t else(0,0,false)
def i7 (L:List Lk) (i:Int):Bool:=decide (i<0)||decide ((L.length:Int)≤i)
def iL (L:List Lk) (l:List Int):Int:=if 80<l.length then 2 else if l.any (i7 L) then 1 else 0
def ù (L:List Lk) (u v:Int) (l:List Int):Int×Int :=
 if iL L l≠0 then(0,iL L l) else if (l7 L u 0 l).2.2=true∧(l7 L u 0 l).1=v then((l7 L u 0 l).2.1,0) else(0,8)
def aqh (u:Int) (w:Int×Int×Bool):Int:=if w.2.2=true∧w.1=u∧w.2.1<0 then 0 else 8
def xh (L:List Lk) (l:List Int):Int :=
 if iL L l≠0 then iL L l else match l with
 |[]=>8
 |i::_=>aqh (L[i.toNat]?.getD (0,0,0)).1 (l7 L (L[i.toNat]?.getD (0,0,0)).1 0 l)
section
variable {L:List Lk} {N:Nat}
def Xg (N:Int) (hL:L.length≤1000) (l:List Int):qB (N,L) l=some (iL L l):=by
 unfold qB EL iL;dsimp only;rw[á]
 by_cases h:80<l.length
 ·rw[Ô (decide_eq_true (by omega)),if_pos h]
 ·rw[Ò (decide_eq_false (by omega)),if_neg h,←á l];refine(ī l (i7 L) (fun z=>ifb (ige z 0) (some 1) (some 0)) (some 1) (some 0) (fun j=>by rw[show ige (j:Int) 0=true from decide_eq_true (by omega)]; rfl) (fun i a hi ha kn=>?_) (fun kn=>?_)).trans ?_
  ·try dsimp only
   unfold m9 i7;rw[Ó hi,É ha,Ì hi (by omega),á,Ė,Ė]
   by_cases h1:a<0
   ·simp[ilt,h1]
   ·by_cases h2:(L.length:Int)≤a
    ·simp[ilt,ige,h1,h2]
    ·simp[ilt,ige,h1,h2]
  ·try dsimp only
   unfold m9;rw[Ü]
  ·cases l.any (i7 L)<;>rfl
def aap {l:List Int} (h:iL L l=0):l.length≤80∧∀i∈l,0≤i∧i.toNat<L.length:=by
 unfold iL at h
 split at h
 ·omega
 ·rename_i h1
  split at h
  ·omega
  ·rename_i h2;refine⟨by omega,fun i hi=>?_⟩;have:=ew.1 (eF.2 h2) i hi;simp[i7] at this;omega
def akD (hS:Ħ L N) (u:Int) {l:List Int} (h:iL L l=0):I9 ((N:Int),L) u l=some (l7 L u 0 l):=by
 obtain⟨hl,hi⟩:=aap h;unfold I9 Zx;dsimp only
 have:=qk (f:=fun(v7:Int×Int×Int) kk11=>wm l (Ú l) L v7.1 v7.2.1 v7.2.2 (fun u8 u9 u10=>kk11 (u8,u9,u10)) (fun z5=>some (z5.1,z5.2.1,z5.2.2)) (fun z6=>some (z6.1,z6.2,true)))
  (F:=fun v=>some (l7 L v.1 v.2.1 (l.drop v.2.2.toNat))) (fun v=>∃i:Nat,v.2.2=i∧i≤l.length∧(-(i*4503599627370496)≤v.2.1∧v.2.1≤i*4503599627370496)) (fun v=>l.length-v.2.2.toNat) (fun v hv kn hk=>?_) (x:=(u,(0:Int),(0:Int))) ⟨0,rfl,by omega,by simp⟩
 ·exact this
 ·obtain⟨w,s,n⟩:=v;obtain⟨i,e,h1,h2⟩:=hv;dsimp only at e h2 hk ⊢;subst e;rw[Int.toNat_natCast] at hk ⊢;unfold wm;rcases Nat.lt_or_ge i l.length with h3|h3
  ·have ha:l[i]?=some l[i]:=List.getElem?_eq_getElem h3;have hd:l.drop i=l[i]::l.drop (i+1):=List.drop_eq_getElem_cons h3;rw[hd];have hx:=hi l[i] (List.getElem_mem _);generalize l[i]=a at ha hx;have hg:L[a.toNat]?=some L[a.toNat]:=List.getElem?_eq_getElem hx.2;have hm:=hS.most _ (List.mem_of_getElem? hg);generalize L[a.toNat]=x at hg hm;rw[Ó h3,É ha,Μ hx.1 hg];unfold l7;rw[hg];simp only[Option.getD_some]
   by_cases hc:x.1=w
   ·rw[Ò (by rw[hc]; exact bne_self_eq_false' _),if_pos hc,Õ (by omega) (by omega),Ì h3 (by omega),hk _ ⟨i+1,by push_cast; rfl,h3,by dsimp only; push_cast; omega⟩ (by simp; omega)];simp
   ·rw[Ô (bne_iff_ne.2 hc),if_neg hc]
  ·obtain rfl:i=l.length:=by omega
   rw[Ü,gP];rfl
def afa (hS:Ħ L N):∀(l:List Int) (u s B:Int),-B≤s∧s≤B→-(B+l.length*4503599627370496)≤(l7 L u s l).2.1∧(l7 L u s l).2.1≤B+l.length*4503599627370496
 |[],u,s,B,h=>by simp[l7]; omega
 |i::t,u,s,B,h=>by
  unfold l7
  have hm : -4503599627370496≤(L[i.toNat]?.getD (0,0,0)).2.2∧(L[i.toNat]?.getD (0,0,0)).2.2≤4503599627370496:=by
   cases hg:L[i.toNat]? with
   |none=>simp
   |some x=>exact hS.most x (cZ hg)
  split
  ·have:=afa hS t (L[i.toNat]?.getD (0,0,0)).2.1 (s+(L[i.toNat]?.getD (0,0,0)).2.2) (B+4503599627370496) (by omega);rw[dg];push_cast;omega
  ·dsimp only;omega
def JD (hS:Ħ L N) {u v:Int} (hu:0≤u∧u<N) (hv:0≤v∧v<N) (l:List Int):ke ((N:Int),L) u v l=some (ù L u v l):=by
 have hl3:=hS.len;unfold ke ta ù
 have e1:(decide (0≤u)&&decide (u<(N:Int)))=true:=by simp[hu.1,hu.2]
 have e2:(decide (0≤v)&&decide (v<(N:Int)))=true:=by simp[hv.1,hv.2]
 rw[l6 hS,À,Ò (by rfl),PP,À,e1,Ò (by rfl),PP,À,e2,Ò (by rfl),Xg _ (by omega),À]
 by_cases h:iL L l=0
 ·rw[Ò (by rw[h]; rfl),if_neg (by simp[h]),akD hS u h,À]
  cases h1:(l7 L u 0 l).2.2 with
  |false=>rw[Ô (by rfl),if_neg (by simp)]
  |true =>
   rw[Ò (by rfl)]
   by_cases h2:(l7 L u 0 l).1=v
   ·rw[Ò (by rw[h2]; exact bne_self_eq_false' _),if_pos ⟨rfl,h2⟩]
   ·rw[Ô (bne_iff_ne.2 h2),if_neg (fun h=>h2 h.2)]
 ·rw[Ô (bne_iff_ne.2 h),if_pos h]
def al3 {ρ α:Type} (x:α) (t:List α) (f:α→Option ρ):õ (x::t) (0:Int) f=f x:=rfl
def VY (hS:Ħ L N) (l:List Int):nh ((N:Int),L) l=some (xh L l):=by
 have hl3:=hS.len;unfold nh s9 xh;rw[l6 hS,À,Ò (by rfl),Xg _ (by omega),À]
 by_cases h:iL L l=0
 ·rw[Ò (by rw[h]; rfl),if_neg (by simp[h])]
  cases l with
  |nil=>rw[á]; rfl
  |cons i t =>
   have hx:=(aap h).2 i (by simp);have hg:L[i.toNat]?=some L[i.toNat]:=List.getElem?_eq_getElem hx.2;generalize L[i.toNat]=x at hg;rw[á,Ò (beq_eq_false_iff_ne.2 (by simp; omega)),al3,Μ hx.1 hg,akD hS x.1 h,À];dsimp only;rw[hg];dsimp only[Option.getD_some];generalize l7 L x.1 0 (i::t)=w;obtain⟨e,sum,ok⟩:=w;unfold aqh;dsimp only
   cases ok with
   |false=>rw[Ô (by rfl),if_neg (by simp)]
   |true =>
    rw[Ò (by rfl)]
    by_cases h2:e=x.1
    ·rw[Ò (by rw[h2]; exact bne_self_eq_false' _)]
     by_cases h3:sum<0
     ·rw[Ò (decide_eq_false (by omega)),if_pos ⟨rfl,h2,h3⟩]
     ·rw[Ô (decide_eq_true (by omega)),if_neg (fun h=>h3 h.2.2)]
    ·rw[Ô (bne_iff_ne.2 h2),if_neg (fun h=>h2 h.2.1)]
 ·rw[Ô (bne_iff_ne.2 h),if_pos h]
end
def ja (c:akt):Int :=
 if ê c.1≠0 then ê c.1 else if mN c.1 c.2.1.1 c.2.1.2=0 then 5 else
 if c.2.2.1 then(if ù (Û c.1) 0 (mN c.1 c.2.1.1 c.2.1.2) c.2.2.2.2=(c.2.2.2.1,0) then 0 else 8)
 else(if ù (Û c.1) (mN c.1 c.2.1.1 c.2.1.2) 0 c.2.2.2.2=(-c.2.2.2.1,0) then 0 else 8)
def qK (c:akt):Int :=
 if ê c.1≠0 then ê c.1 else if c.2.1≠(0,0)∨c.2.2.1=true∨c.2.2.2.1≠0 then 1 else if xh (Û c.1) c.2.2.2.2=0 then 0 else 8
def ag5 (b:Þ) (c:akt):Bool×Int :=
 if ê b≠0 then(false,ê b) else
 if c.2.1=(0,0) then(if qK c≠0 then(false,qK c) else(xS c.1 b,0)) else(if ja c≠0 then(false,ja c) else(xS c.1 b,0))
def wr_neg {n:Int} (h:I64 n):aqo (0-n)=if n = -9223372036854775808 then n else -n:=by
 have e:aqo (0-n)=if (0-n) % 18446744073709551616≥9223372036854775808 then(0-n) % 18446744073709551616-18446744073709551616 else(0-n) % 18446744073709551616:=by
  simp[aqo,IntKind.wrap,IntKind.bits,IntKind.signed]
 rw[e];unfold I64 at h
 split<;>split<;>omega
def oa {c:akt} (hI:In c.1) (hv:I64 c.2.2.2.1):Ĉ c=some (ja c):=by
 unfold Ĉ wh ja;rw[ji hI.size hI.num,À]
 by_cases hc:ê c.1=0
 ·have hg:=(ì c.1).1 hc;rw[Ò (by simp[ine,hc]),if_neg (show ¬(ê c.1≠0) from fun h=>h hc),TW hI,À,Fo hg,qI hI,À,jy hg];dsimp only
  by_cases h0:mN c.1 c.2.1.1 c.2.1.2=0
  ·rw[if_pos h0,if_pos h0]; rfl
  ·have hN:=hg.sys;have hr:=ŗ c.1 c.2.1;have hz:=ń c.1;rw[if_neg h0,if_neg h0,Ò (by rfl),show(((Í c.1).length:Int)+1)=(((Í c.1).length+1:Nat):Int) by push_cast; rfl];dsimp only;rw[show(∀f:Int→Option Int,ck (0-c.2.2.2.1) f=f (aqo (0-c.2.2.2.1))) from fun f=>rfl,wr_neg hv]
   have key:∀(u v:Int) (t t':Int),(t'=t∨(t' = -9223372036854775808∧t=9223372036854775808))→(ifb (ine (ù (Û c.1) u v c.2.2.2.2).2 0) (some (8:Int)) (ifb (ine (ù (Û c.1) u v c.2.2.2.2).1 t') (some 8) (some 0)))=some (if ù (Û c.1) u v c.2.2.2.2=(t,0) then 0 else 8):=by
    intro u v t t' ht
    have hb : -9000000000000000000≤(ù (Û c.1) u v c.2.2.2.2).1∧(ù (Û c.1) u v c.2.2.2.2).1≤9000000000000000000:=by
     unfold ù
     split
     ·simp
     ·rename_i hi
      split
      ·have:=afa hN c.2.2.2.2 u 0 0 (by simp);have:=(aap (by simpa using hi)).1;dsimp only;omega
      ·simp
    generalize ù (Û c.1) u v c.2.2.2.2=p at hb ⊢
    by_cases h2:p.2=0
    ·rw[Ò (by rw[h2]; rfl)]
     by_cases h1:p.1=t'
     ·have:p=(t,0):=Prod.ext (by rcases ht with h|h<;>omega) h2
      rw[Ò (by rw[h1]; exact bne_self_eq_false' _),if_pos this]
     ·have:¬p=(t,0):=fun e=>by
       have e1:p.1=t:=by rw[e]
       rcases ht with h|h<;>omega
      rw[Ô (bne_iff_ne.2 h1),if_neg this]
    ·have:¬p=(t,0):=fun e=>h2 (by rw[e]);rw[Ô (bne_iff_ne.2 h2),if_neg this]
   unfold I64 at hv
   cases c.2.2.1 with
   |true =>
    rw[Ĝ,JD hN hz hr,À,key _ _ _ _ (.inl rfl)];rfl
   |false =>
    rw[å,JD hN hr hz,À,key _ _ (-c.2.2.2.1) _ (by split<;>omega)]
    rfl
 ·rw[Ô (by simp[ine,hc]),if_pos hc]
def abb {c:akt} (hI:In c.1):ng c=some (qK c):=by
 unfold ng sX qK;rw[ji hI.size hI.num,À]
 by_cases hc:ê c.1=0
 ·have hg:=(ì c.1).1 hc;rw[Ò (by simp[ine,hc]),if_neg (show ¬(ê c.1≠0) from fun h=>h hc)]
  by_cases h1:c.2.1=(0,0)
  ·have e1:(!((ü c.2.1.1 0)&&((ü c.2.1.2 0)&&true)))=false:=by rw[h1]; rfl
   rw[e1,å]
   cases h2:c.2.2.1 with
   |true=>rw[Ĝ,if_pos (.inr (.inl rfl))]
   |false =>
    rw[å]
    by_cases h3:c.2.2.2.1=0
    ·rw[Ò (by rw[h3]; rfl),if_neg (by simp[h1,h3]),qI hI,À,jy hg,show(((Í c.1).length:Int)+1)=(((Í c.1).length+1:Nat):Int) by push_cast; rfl];dsimp only;rw[VY hg.sys,À]
     by_cases h4:xh (Û c.1) c.2.2.2.2=0
     ·rw[Ò (by rw[h4]; rfl),if_pos h4]
     ·rw[Ô (bne_iff_ne.2 h4),if_neg h4]
    ·rw[Ô (bne_iff_ne.2 h3),if_pos (.inr (.inr h3))]
  ·have e1:(!((ü c.2.1.1 0)&&((ü c.2.1.2 0)&&true)))=true:=by
    rw[Prod.ext_iff] at h1;simp[ü];dsimp only at h1;omega
   rw[e1,Ĝ,if_pos (.inl h1)]
 ·rw[Ô (by simp[ine,hc]),if_pos hc]
def ans {b:Þ} {c:akt} (hb:In b) (hI:In c.1) (hv:I64 c.2.2.2.1):Bx b c=some (ag5 b c):=by
 unfold Bx KE ag5;rw[ji hb.size hb.num,À]
 by_cases hc:ê b=0
 ·rw[Ò (by simp[ine,hc]),if_neg (show ¬(ê b≠0) from fun h=>h hc)]
  by_cases h1:c.2.1=(0,0)
  ·have e1:((ü c.2.1.1 0)&&((ü c.2.1.2 0)&&true))=true:=by rw[h1]; rfl
   rw[e1,Ĝ,if_pos h1,abb hI,À]
   by_cases h2:qK c=0
   ·rw[Ò (by rw[h2]; rfl),if_neg (by simp[h2]),part_ok hI.size hb.size,À]
   ·rw[Ô (bne_iff_ne.2 h2),if_pos h2]
  ·have e1:((ü c.2.1.1 0)&&((ü c.2.1.2 0)&&true))=false:=by
    rw[Prod.ext_iff] at h1;simp[ü];dsimp only at h1;omega
   rw[e1,å,if_neg h1,oa hI hv,À]
   by_cases h2:ja c=0
   ·rw[Ò (by rw[h2]; rfl),if_neg (by simp[h2]),part_ok hI.size hb.size,À]
   ·rw[Ô (bne_iff_ne.2 h2),if_pos h2]
 ·rw[Ô (by simp[ine,hc]),if_pos hc]
def yf (b:Þ) (l:List Int):List (Int×Int):=l.map fun i=>(ľ b)[i.toNat]?.getD (0,0)
def ai4 {b:Þ} (hg:Č b) (hn:∀g∈b.2.1,I64 g.2.2.2.2.1.1) {l:List Int} (hl:l.length≤1000) (hi:∀i∈l,0≤i∧i.toNat<(Û b).length):qy b l=some (yf b l):=by
 unfold qy EB;rw[qI (hg.inn hn),À,jy hg];refine ò l (fun i=>yf b (l.take i)) _ rfl (fun i a hlt ha kn=>?_) (fun kn=>?_)
 ·try dsimp only
  unfold m7;have hx:=hi a (List.mem_of_getElem? ha);have hs:(ľ b)[a.toNat]?=some ((ľ b)[a.toNat]'(by rw[JI hg]; exact hx.2)):=List.getElem?_eq_getElem _;generalize (ľ b)[a.toNat]'(by rw[JI hg]; exact hx.2)=x at hs
  have hlen:(yf b (l.take i)).length≤1000:=by unfold yf; rw[List.length_map,List.length_take]; omega
  rw[Ó hlt,É ha,Μ hx.1 hs,Ĭ (show ë ((yf b (l.take i)).length+[x].length)=true from Ø (show(yf b (l.take i)).length+1≤4294967296 by omega)),Ì hlt (by omega),take_succ ha];unfold yf;rw[List.map_append,List.map_singleton,hs];rfl
 ·try dsimp only
  unfold m7;rw[Ü,List.take_length]
def src_ok {b:Þ}:∀s∈ľ b,apN b s:=by
 intro s hs;unfold ľ at hs;rcases List.mem_append.1 hs with h|h
 ·have:=SP s h; exact .inl this
 ·have:=Tm s h; exact .inr this
def aoh {b:Þ} (hg:Č b) {l:List Int} (hi:∀i∈l,0≤i∧i.toNat<(Û b).length):∀s∈yf b l,apN b s:=by
 intro s hs;obtain⟨i,h1,rfl⟩:=dM.1 hs;have hx:=hi i h1;have hsx:(ľ b)[i.toNat]?=some ((ľ b)[i.toNat]'(by rw[JI hg]; exact hx.2)):=cQ _;rw[hsx];exact src_ok _ (ft _)
section
variable {L:List Lk} {N:Nat}
def Lq (R:Nat→List Int) (good:Int→Bool):∀(k:Nat) (u sum:Int) (out:List Int),(∀i∈out,0≤i∧i.toNat<L.length)→(∀i∈mO L R good k u sum out,0≤i∧i.toNat<L.length)∧(mO L R good k u sum out).length≤out.length+k
 |0,u,sum,out,h=>⟨h,by simp[mO]⟩
 |k+1,u,sum,out,h=>by
  unfold mO
  cases hn:PQ L (R k) good u sum with
  |none =>
   have:=Lq R good k u sum out h;exact⟨this.1,by have:=this.2; dsimp only; omega⟩
  |some i =>
   have hi:i<L.length:=by
    unfold PQ at hn;exact(List.findIdx?_eq_some_iff_getElem.1 hn).1
   have:=Lq R good k (L[i]?.getD (0,0,0)).2.1 (sum+(L[i]?.getD (0,0,0)).2.2) (out++[(i:Int)]) (fun j hj=>by
    rcases dc.1 hj with h1|h1
    ·exact h j h1
    ·simp at h1; subst h1; simp; exact hi)
   exact⟨this.1,by have:=this.2; simp at this; dsimp only; omega⟩
def aeC (N:Nat) (u v:Int):(∀i∈(DN L N u v).1,0≤i∧i.toNat<L.length)∧(DN L N u v).1.length≤N:=by
 unfold DN
 split
 ·simp
 ·cases h:(lW L N v N).findIdx? (fun x=>gv x u==(g9 L N u v).1) with
  |none=>simp
  |some k =>
   have hk:=(List.findIdx?_eq_some_iff_getElem.1 h).1;rw[jP] at hk;have:=Lq (L:=L) (exL L N v) (fun n=>ieq n (g9 L N u v).1) k u 0 [] (by simp);exact⟨this.1,by have:=this.2; simp at this; dsimp only; omega⟩
end
def xQ (B:Þ) (n:Int×Int) (upper:Bool):List Int :=
 if upper then(DN (Û B) ((Í B).length+1) 0 (mN B n.1 n.2)).1 else(DN (Û B) ((Í B).length+1) (mN B n.1 n.2) 0).1
def nj (B:Þ) (n:Int×Int) (upper:Bool):Þ:=aix B (yf B (xQ B n upper)) [n]
def qL (B:Þ) (n:Int×Int) (upper:Bool):akt:=(nj B n upper,n,upper,(if upper then(ivR B n).2 else(ivR B n).1),xQ (nj B n upper) n upper)
def jQ (b:Þ) (n:Int×Int) (upper:Bool):akt×Int :=
 if (ċ b [n]).2≠0 then(Fg,(ċ b [n]).2) else
 if ê (nj (ċ b [n]).1 n upper)≠0 then(Fg,ê (nj (ċ b [n]).1 n upper)) else
 if ħ (Û (nj (ċ b [n]).1 n upper)) ((Í (nj (ċ b [n]).1 n upper)).length+1) then(qL (ċ b [n]).1 n upper,0) else(Fg,9)
def ajY {ρ:Type}:@sZ ρ=@ĕ ρ:=rfl
def alj {ρ:Type} (K:Option ρ):Ñ (fun(v23:Int) kk25=>sY (0:Int) v23 (fun u24=>kk25 u24) (fun _=>K)) (0:Int)=K:=by
 refine ņ (fun x=>x=0) (fun _=>0) (fun x hx=>.inl fun kn=>?_) rfl;rw[hx];rfl
def ahg {B:Þ} (h:Č B) (hn:∀g∈B.2.1,I64 g.2.2.2.2.1.1) (n:Int×Int) (upper:Bool):lV (B,TY B) n upper=some (xQ B n upper):=by
 unfold lV wi xQ;rw[TL h hn,À,show(B,TY B).2=TY B from rfl,JG]
 cases upper with
 |true=>rw[Ĝ,aiY h.sys (ń B) (ŗ B n),À]; rfl
 |false=>rw[å,aiY h.sys (ŗ B n) (ń B),À]; rfl
def Xx {B:Þ} (h:Č B) (n:Int×Int) (upper:Bool):(∀i∈xQ B n upper,0≤i∧i.toNat<(Û B).length)∧(xQ B n upper).length≤60:=by
 have hN:=h.sys.n60;unfold xQ
 split
 ·have:=aeC (L:=Û B) ((Í B).length+1) 0 (mN B n.1 n.2);exact⟨this.1,by have:=this.2; omega⟩
 ·have:=aeC (L:=Û B) ((Í B).length+1) (mN B n.1 n.2) 0;exact⟨this.1,by have:=this.2; omega⟩
def SG (w:List Int):∀(l:List Cmp) (i:Nat),∀c∈tj w i l,c∈l
 |[],i,c,h=>by simp[tj] at h
 |a::l,i,c,h=>by
  simp only[tj] at h
  split at h
  ·rcases df.1 h with h|h
   ·rw[h]; simp
   ·exact gp _ (SG w l (i+1) c h)
  ·exact gp _ (SG w l (i+1) c h)
def amB {b:Þ} (h:In b) (ss:List (Int×Int)) {looks:List (Int×Int)} (hl:looks.length≤1000):In (aix b ss looks):=by
 obtain⟨hs,hn⟩:=h;have g1:=hs.gauges; have g2:=hs.uses; have g3:=hs.loans; have g4:=hs.compares;unfold aix;refine⟨⟨?_,?_,?_,?_,hl,fun c hc=>hs.piles c (SG _ _ _ c hc)⟩,fun g hg=>hn g (List.mem_filter.1 hg).1⟩
 ·exact dC (dO _ _) g1
 ·exact dC (dO _ _) g2
 ·exact dC (dO _ _) g3
 ·exact dC (SI _ _ _) g4
def XL {b:Þ} (hI:In b) (n:Int×Int) (upper:Bool):qA b n upper=some (jQ b n upper):=by
 unfold qA EJ jQ;rw[ajY];refine(vB hI (ns:=[n]) (by simp) (fun e=>some (Fg,e)) (fun e he=>by rw[Ĭ (by simp[ine,he])]; rfl) (fun z he=>by rw[Ĭ (by simp[ine,he])]; rfl) (fun _ _ _=>rfl)).trans ?_
 split
 ·rfl
 ·rename_i e;have hr:=(j4 hI (by simpa using e)).1;dsimp only;generalize (ċ b [n]).1=B at hr ⊢;have hci:=Xx hr.good n upper;have hpi:In (nj B n upper):=amB (hr.good.inn hr.num) _ (by simp)
  rw[Ar,show((((Í B).length:Int)+1,Û B):Sys)=TY B from rfl,ahg hr.good hr.num,À,ai4 hr.good hr.num (by omega) hci.1,À,
   cut_ok hr.good.size (by unfold yf; rw[List.length_map]; omega) (by simp) (aoh hr.good hci.1),À,show aix B (yf B (xQ B n upper)) [n]=nj B n upper from rfl,ji hpi.size hpi.num,À]
  by_cases hc:ê (nj B n upper)=0
  ·have hg:=(ì _).1 hc;rw[Ò (by simp[ine,hc]),if_neg (show ¬(ê (nj B n upper)≠0) from fun h=>h hc)];refine(alj _).trans ?_;rw[qI hpi,À,jy hg,Ò (by rfl)];dsimp only;rw[show((((Í (nj B n upper)).length:Int)+1,Û (nj B n upper)):Sys)=TY (nj B n upper) from rfl,JG (nj B n upper),JC hg.sys,À]
   cases ho:ħ (Û (nj B n upper)) ((Í (nj B n upper)).length+1) with
   |false=>rw[if_neg (by simp)]; rfl
   |true =>
    rw[if_pos rfl,←JG (nj B n upper),Ò (by rfl),Xc hr,À,ahg hg hpi.num,À]
    cases upper with
    |true=>rw[Ĝ,IM hr,À]; rfl
    |false=>rfl
  ·rw[Ô (by simp[ine,hc]),if_pos hc,Ô (by simp[ine,hc])];rfl
def ajU {L:List Lk} {N:Nat} (h:Ħ L N) (ho:ħ L N=true):AA ((N:Int),L)=some ([],5):=by
 have hN:=h.n60;unfold AA RD;rw[l6 h,À,Ò (by rfl),DR h.links h.n1 (by omega),À,if_pos ho];rfl
def afn {b:Þ} (hg:Č b) (hn:∀g∈b.2.1,I64 g.2.2.2.2.1.1) (ho:ħ (Û b) ((Í b).length+1)=true):I8 b=some (Fg,5):=by
 unfold I8 Rq;rw[qI (hg.inn hn),À,jy hg,Ò (by rfl),show((((Í b).length:Int)+1,Û b),ľ b,(0:Int)).1=TY b from rfl,JG,ajU hg.sys ho,À];rfl
def amE {k:Int×Int} (hk:0<k.2) (m n:Int):0<aqf (F0 k m) (F0 k n)↔k.1*n<k.1*m:=by
 obtain⟨g,g0,_,g1,g2⟩:=A1 (n:=k.1*m) hk;obtain⟨h,h0,_,h1,h2⟩:=A1 (n:=k.1*n) hk
 have key:(F0 k n).1*(F0 k m).2<(F0 k m).1*(F0 k n).2↔k.1*n<k.1*m:=by
  have e1:(F0 k n).1*(F0 k m).2*((g:Int)*h)=k.1*n*k.2:=by
   show(od (k.1*n) k.2).1*(od (k.1*m) k.2).2*((g:Int)*h)=k.1*n*k.2
   calc _=((od (k.1*n) k.2).1*h)*((od (k.1*m) k.2).2*g):=by ac_rfl
    _=_:=by rw[←h1,←g2]
  have e2:(F0 k m).1*(F0 k n).2*((g:Int)*h)=k.1*m*k.2:=by
   show(od (k.1*m) k.2).1*(od (k.1*n) k.2).2*((g:Int)*h)=k.1*m*k.2
   calc _=((od (k.1*m) k.2).1*g)*((od (k.1*n) k.2).2*h):=by ac_rfl
    _=_:=by rw[←g1,←h2]
  have pg:0<(g:Int)*h:=Int.mul_pos (by omega) (by omega);constructor
  ·intro hl;have:=Int.mul_lt_mul_of_pos_right hl pg;rw[e1,e2] at this;exact Int.lt_of_mul_lt_mul_right this (by omega)
  ·intro hl;have:=Int.mul_lt_mul_of_pos_right hl hk;rw[←e1,←e2] at this;exact Int.lt_of_mul_lt_mul_right this (by omega)
 rw[←key];unfold aqf
 by_cases he:F0 k m=F0 k n
 ·rw[if_pos he,he];omega
 ·rw[if_neg he]
  split
  ·omega
  ·split<;>omega
def ajf {k:Int×Int} (hk:0<k.2) {heat:Int×Int} (hh:heat.1≤heat.2):Yd k heat=if k.1<0 then(F0 k heat.2,F0 k heat.1) else(F0 k heat.1,F0 k heat.2):=by
 unfold Yd
 by_cases hn:k.1<0
 ·rw[if_pos hn]
  by_cases he:heat.1=heat.2
  ·rw[he]
   split<;>rfl
  ·rw[if_pos ((amE hk _ _).2 (Int.mul_lt_mul_of_neg_left (by omega) hn))]
 ·rw[if_neg hn,if_neg (fun h=>by
   have h1:=(amE hk _ _).1 h;have h2:=Int.mul_le_mul_of_nonneg_left hh (show 0≤k.1 by omega)
   omega)]
section
variable {b x:Þ}
def ajE (h:Č b) {g g':é} (hg:g∈b.2.1) (hg':g'∈b.2.1) (e:g.1=g'.1):g=g':=by
 have h1:=Ż h.ids hg;have h2:=Ż h.ids hg';rw[e,h2] at h1;exact(Option.some.inj h1).symm
end
section
variable {b:Þ} {c d:Cmp}
end
section
variable {b x:Þ}
end
def aeV {l m:List (Int×Int)} (hn:l.length≤1000000):j9 l m=some (decide (l=m)):=by
 unfold j9 sP;rw[á,á]
 by_cases hl:l.length=m.length
 ·rw[Ò (by simp[ine,hl])];refine eG (iq l (fun i a=>if m[i]?=some a then none else some false) some (some true) (fun i a hi ha kn=>?_) (fun kn=>?_)) ?_
  ·try dsimp only
   unfold jB;have hm:m[i]?=some m[i]:=List.getElem?_eq_getElem (by omega);rw[Ó hi,É ha,É hm,Ì hi (by omega),hm,Ė]
   have e:(!(ü a.1 m[i].1&&(ü a.2 m[i].2&&true)))=decide (¬(m[i]=a)):=by
    rw[dJ];simp only[ü,fq,eO,gi,decide_eq_false_iff_not,decide_eq_true_eq];constructor
    ·intro h e; rw[e] at h; simp at h
    ·intro h
     by_cases h1:a.1=m[i].1
     ·by_cases h2:a.2=m[i].2
      ·exact absurd (Prod.ext h1 h2).symm h
      ·exact .inr h2
     ·exact .inl h1
   rw[e]
   by_cases h:m[i]=a
   ·simp[h]
   ·simp[h]
  ·try dsimp only
   unfold jB;rw[Ü]
  ·cases h:Ĩ (fun i a=>if m[i]?=some a then none else some false) 0 l with
   |none=>simp[Fx hl h]
   |some b =>
    obtain⟨h1,h2⟩:=Fw h;simp[h1,h2]
 ·rw[Ô (by simp[ine]; omega)];have:l≠m:=fun e=>hl (by rw[e]);simp[this]
section
variable {b:Þ} {c d:Cmp} {s:Int×Int}
def aqE (h:Pred b c s) : -10000000000000000≤s.1∧s.1≤s.2∧s.2≤10000000000000000:=by
 have q:=h.good2.cmp (A5 (c:=Ë c));obtain⟨_,_,b1,b2,b3⟩:=yh (b:=b) h.good.film (c:=Ë c) ⟨q.nums,q.r1,q.r2⟩;have e1:agr b c=LF (Ķ b (Ë c)).1+(iZ b (Ë c)).1-(Ë c).2.2.2.2.2.1:=rfl;have e2:E7 b c=(Ķ b (Ë c)).2.1 / (Ķ b (Ë c)).2.2+(iZ b (Ë c)).2+(Ë c).2.2.2.2.2.1:=rfl;have o:=h.order;have n:=h.ends;have bd:=h.bd;omega
end
def ψ (e:End):List Int:=[e.1-e.2.1,e.2.2-e.1,Int.tdiv (e.2.2-e.2.1) 2,Int.tdiv (e.2.2-e.2.1) 2-1,Int.tdiv (e.2.2-e.2.1) 2+1]
def tS (e:End) (n:Int):List Int:=[n-e.2.1,e.2.2-n]
def atE (e:End) (d:Int):Int:=min e.1 (min (e.2.1+d) (e.2.2-d))
def Pr (w:LM) (d:Int):Int×Int:=(-(atE w.2.2 d),atE w.2.1 d)
def ajH (r:Int×Int) (n:Int):List Int:=[n-2,n-1,n,n+1,n+2].filter fun d=>decide (r.1<d)&&decide (d<r.2)
def T7 (r:Int×Int) (l:List Int):List Int:=[r.1,r.2]++l.flatMap (ajH r)
def ahf (w:LM) (l:List Int):Int:=l.foldl (fun m d=>max m ((Pr w d).2-(Pr w d).1)) (-1)
def akC (w:LM):Int:=ahf w (T7 w.1 (ψ w.2.1++ψ w.2.2))
def Sm (n:Int):Prop:=-100000000000000000≤n∧n≤100000000000000000
structure aa9 (e:End):Prop where
 s:Sm e.1
 u:Sm e.2.1
 d:Sm e.2.2
structure aa4 (w:LM):Prop where
 lo:Sm w.1.1
 hi:Sm w.1.2
 high:aa9 w.2.1
 low:aa9 w.2.2
def abq (n:Int) : -1≤n-2*Int.tdiv n 2∧n-2*Int.tdiv n 2≤1:=by
 have h1:=Int.tmod_add_mul_tdiv n 2;have h2:=Int.tmod_two_eq n;omega
def OK {e:End} (h:aa9 e):iP e=some (ψ e):=by
 obtain⟨⟨a1,a2⟩,⟨b1,b2⟩,c1,c2⟩:=h;have h2:=abq (e.2.2-e.2.1);unfold iP vY;rw[Õ (by omega) (by omega),Õ (by omega) (by omega),Õ (by omega) (by omega),Õ (by omega) (by omega),Õ (by omega) (by omega),Õ (by omega) (by omega)];rfl
def OY {e:End} (h:aa9 e) {n:Int} (hn : -1000000000000000000≤n∧n≤1000000000000000000):iQ e n=some (tS e n):=by
 obtain⟨⟨a1,a2⟩,⟨b1,b2⟩,c1,c2⟩:=h;unfold iQ vZ;rw[Õ (by omega) (by omega),Õ (by omega) (by omega)];rfl
def aqm {e:End} (h:aa9 e) {d:Int} (hd:Sm d):vd e d=some (atE e d):=by
 obtain⟨⟨a1,a2⟩,⟨b1,b2⟩,c1,c2⟩:=h;obtain⟨d1,d2⟩:=hd;unfold vd KC;rw[Õ (by omega) (by omega),Õ (by omega) (by omega),Ap,Ap];unfold atE;congr 1;omega
def anm {e:End} (h:aa9 e) {d:Int} (hd:Sm d) : -200000000000000000≤atE e d∧atE e d≤100000000000000000:=by
 obtain⟨⟨a1,a2⟩,⟨b1,b2⟩,c1,c2⟩:=h;obtain⟨d1,d2⟩:=hd;unfold atE;omega
def akR {w:LM} (h:aa4 w) {d:Int} (hd:Sm d):Ř w d=some (Pr w d):=by
 unfold Ř sQ;have b1:=anm h.low hd;rw[aqm h.low hd,À,Õ (by omega) (by omega),aqm h.high hd,À];unfold Pr;rw[Int.zero_sub]
def aoZ (r:Int×Int) (n:Int):(ajH r n).length≤5:=dO _ _
def SZ (r:Int×Int):∀l:List Int,(l.flatMap (ajH r)).length≤l.length*5
 |[]=>by simp
 |n::l=>by
  have h1:=aoZ r n;have h2:=SZ r l;rw[dK,cX,dg];omega
def aqP {ρ:Type} (r:Int×Int) {n:Int} (hn : -4000000000000000000≤n∧n≤4000000000000000000) {out:List Int} (ho:out.length≤1000) (K:List Int→Option ρ) :
 Ñ (fun(v9:(Val (.pair tI (.slice tI)))) kk12=>ik n r.1 r.2 v9.1 v9.2 (fun u10 u11=>kk12 (u10,u11)) K) (n-2,out)=K (out++ajH r n):=by
 let five:List Int:=[n-2,n-1,n,n+1,n+2]
 have hg:∀(i:Nat),i<5→five[i]?=some (n-2+i):=by
  intro i hi
  have:i=0∨i=1∨i=2∨i=3∨i=4:=by omega
  rcases this with rfl|rfl|rfl|rfl|rfl<;>simp only[five,fg,List.getElem?_cons_succ]<;>congr 1<;>omega
 refine ņ (fun v=>∃i:Nat,i≤5∧v=(n-2+(i:Int),out++(five.take i).filter fun d=>decide (r.1<d)&&decide (d<r.2))) (fun v=>(n+3-v.1).toNat) ?_ ⟨0,by omega,by simp⟩;rintro v ⟨i,hi,rfl⟩;rcases dz i 5 with h5|h5
 ·refine .inr ⟨(n-2+((i+1:Nat):Int),out++(five.take (i+1)).filter fun d=>decide (r.1<d)&&decide (d<r.2)),⟨i+1,h5,rfl⟩,by dsimp only; omega,fun kn=>?_⟩;have hl:((five.take i).filter fun d=>decide (r.1<d)&&decide (d<r.2)).length≤5:=qr _ five i;dsimp only;unfold ik;rw[Õ (by omega) (by omega),Ô (decide_eq_true (by omega)),take_succ (hg i h5),List.filter_append]
  have e0:n-2+(i:Int)+1=n-2+((i+1:Nat):Int):=by push_cast; omega
  by_cases h1:r.1<n-2+(i:Int)
  ·rw[Ô (show igt (n-2+(i:Int)) r.1=true from decide_eq_true h1)]
   by_cases h2:n-2+(i:Int)<r.2
   ·rw[Ô (show ilt (n-2+(i:Int)) r.2=true from decide_eq_true h2),Ĭ (Ø (by rw[cX]; simp only[dI]; omega)),Õ (by omega) (by omega),e0];simp[h1,h2]
   ·rw[Ò (show ilt (n-2+(i:Int)) r.2=false from decide_eq_false h2),Õ (by omega) (by omega),e0];simp[h1,h2]
  ·rw[Ò (show igt (n-2+(i:Int)) r.1=false from decide_eq_false h1),Õ (by omega) (by omega),e0];simp[h1]
 ·refine .inl fun kn=>?_
  obtain rfl:i=5:=by omega
  dsimp only;unfold ik;rw[Õ (by omega) (by omega),Ò (decide_eq_false (by omega))];rfl
def alw (w:LM) {l:List Int} (hl:l.length≤100) (hn:∀n∈l,-2000000000000000000≤n∧n≤2000000000000000000):kd w l=some (T7 w.1 l):=by
 unfold kd sR;refine ò l (fun i=>[w.1.1,w.1.2]++(l.take i).flatMap (ajH w.1)) _ rfl (fun i n hi ha kn=>?_) (fun kn=>?_)
 ·try dsimp only
  unfold jF;have hb:=hn n (List.mem_of_getElem? ha);have h5:=SZ w.1 (l.take i)
  have ht:(l.take i).length≤100:=by rw[di]; omega
  rw[Ó hi,É ha,Õ (by omega) (by omega)];refine(aqP w.1 (by omega) (by rw[cX]; simp only[dg,dw]; omega) _).trans ?_;rw[Ì hi (by omega),take_succ ha,eW,du];simp
 ·try dsimp only
  unfold jF;rw[Ü,List.take_length];rfl
def aoE {r:Int×Int} {l:List Int} {d:Int}:d∈T7 r l↔d=r.1∨d=r.2∨(r.1<d∧d<r.2∧∃n∈l,n-2≤d∧d≤n+2):=by
 unfold T7 ajH;simp only[List.mem_append,List.mem_cons,List.not_mem_nil,or_false,List.mem_flatMap,List.mem_filter,Bool.and_eq_true,decide_eq_true_eq];constructor
 ·rintro((h|h)|⟨n,hn,h,h1,h2⟩)
  ·exact .inl h
  ·exact .inr (.inl h)
  ·exact .inr (.inr ⟨h1,h2,n,hn,by omega,by omega⟩)
 ·rintro(h|h|⟨h1,h2,n,hn,h3,h4⟩)
  ·exact .inl (.inl h)
  ·exact .inl (.inr h)
  ·exact .inr ⟨n,hn,by omega,h1,h2⟩
def ahX (r:Int×Int) {l:List Int} (hl:l.length≤100):(T7 r l).length≤600:=by
 have:=SZ r l;unfold T7;rw[List.length_append];simp only[List.length_cons,List.length_nil];omega
def alv {w:LM} (h:aa4 w) {l:List Int}:∀d∈T7 w.1 l,Sm d:=by
 intro d hd;obtain⟨a1,a2⟩:=h.lo;obtain⟨b1,b2⟩:=h.hi;rcases aoE.1 hd with h|h|⟨h1,h2,_⟩
 ·rw[h]; exact⟨a1,a2⟩
 ·rw[h]; exact⟨b1,b2⟩
 ·exact⟨by omega,by omega⟩
def OL {e:End} (h:aa9 e):∀n∈ψ e,-1000000000000000000≤n∧n≤1000000000000000000:=by
 obtain⟨⟨a1,a2⟩,⟨b1,b2⟩,c1,c2⟩:=h;have h2:=abq (e.2.2-e.2.1);intro n hn;unfold ψ at hn;simp only[List.mem_cons,List.not_mem_nil,or_false] at hn;omega
def an0 {w:LM} (h:aa4 w):lT w=some (akC w):=by
 unfold lT pT
 have hl:([ψ w.2.1,ψ w.2.2]:List (List Int)).flatten=ψ w.2.1++ψ w.2.2:=by simp
 have hll:(ψ w.2.1++ψ w.2.2).length=10:=rfl
 rw[OK h.high,À,OK h.low,À,pD (by simp) (by rw[hl,hll]; omega),À,hl,alw w (by rw[hll]; omega) (fun n hn=>by
  rcases dc.1 hn with hn|hn
  ·have:=OL h.high n hn; omega
  ·have:=OL h.low n hn; omega),À]
 have hnl:=ahX w.1 (l:=ψ w.2.1++ψ w.2.2) (by rw[hll]; omega);have hsm:=alv h (l:=ψ w.2.1++ψ w.2.2);unfold akC;generalize T7 w.1 (ψ w.2.1++ψ w.2.2)=l at hnl hsm ⊢;refine ņ (fun v=>∃i:Nat,i≤l.length∧v=(ahf w (l.take i),(i:Int))) (fun v=>l.length-v.2.toNat) ?_ ⟨0,by omega,rfl⟩;rintro v ⟨i,hi,rfl⟩;rcases Nat.lt_or_ge i l.length with h2|h2
 ·have ha:l[i]?=some l[i]:=List.getElem?_eq_getElem h2;have hs:=hsm l[i] (List.getElem_mem _);generalize l[i]=d at ha hs;refine .inr ⟨(ahf w (l.take (i+1)),((i+1:Nat):Int)),⟨i+1,h2,rfl⟩,by dsimp only; omega,fun kn=>?_⟩;dsimp only;unfold jg;have b1:=anm h.low hs;have b2:=anm h.high hs;rw[Ó h2,É ha,show Ř ((w.1.1,w.1.2),(w.2.1.1,w.2.1.2.1,w.2.1.2.2),w.2.2.1,w.2.2.2.1,w.2.2.2.2) d=Ř w d from rfl,akR h hs,À,Õ (by unfold Pr; dsimp only; omega) (by unfold Pr; dsimp only; omega),Ì h2 (by omega),agv,take_succ ha];unfold ahf;rw[List.foldl_append];rfl
 ·refine .inl fun kn=>?_
  obtain rfl:i=l.length:=by omega
  dsimp only;unfold jg;rw[Ü,List.take_length]
def ahe {b:Þ} {n:Int×Int} {c:Cmp} (hp:(Ł b c).2=0):aa4 (abe b n c):=by
 obtain⟨g1,g2⟩:=pl hp;have ho:=LY hp;have hb:=aqE (abM hp);have hx:=DH g2;have hy:=DG g2;have b6:=akY g1 g2 ho
 have key:∀{s t:Int},0≤s∧s<((Í (î b (Ë c))).length+1:Nat)→0≤t∧t<((Í (î b (Ë c))).length+1:Nat)→aa9 (endP b (Ë c) s t):=by
  intro s t hs ht;have b1:=tm g1 g2 ho hs ht;have b2:=tm g1 g2 ho hs hy;have b3:=tm g1 g2 ho hx ht;have b4:=tm g1 g2 ho hs hx;have b5:=tm g1 g2 ho hy ht;unfold endP;exact⟨⟨by dsimp only; omega,by dsimp only; omega⟩,⟨by dsimp only; omega,by dsimp only; omega⟩,by dsimp only; omega,by dsimp only; omega⟩
 exact⟨⟨by show _≤(Ł b c).1.1; omega,by show(Ł b c).1.1≤_; omega⟩,⟨by show _≤(Ł b c).1.2; omega,by show(Ł b c).1.2≤_; omega⟩,key (ń _) (ŗ _ n),key (ŗ _ n) (ń _)⟩
def aiQ (b:Þ) (n:Int×Int) (c:Cmp):Int×Int :=
 if (ċ b [n]).2≠0 then(0,(ċ b [n]).2) else if (Ł (ċ b [n]).1 c).2≠0 then(0,(Ł (ċ b [n]).1 c).2) else(akC (abe (ċ b [n]).1 n c),0)
def an1 {ρ:Type}:@zB ρ=@ĕ ρ:=rfl
def apL {b:Þ} (hI:In b) (n:Int×Int) {c:Cmp} (hA:c.2.2.1.length≤1000) (hB:c.2.2.2.1.length≤1000):Ay b n c=some (aiQ b n c):=by
 unfold Ay Rk aiQ;rw[an1];refine(vB hI (ns:=[n]) (by simp) (fun e=>some ((0:Int),e)) (fun e he=>by rw[Ĭ (by simp[ine,he])]) (fun z he=>by rw[Ĭ (by simp[ine,he])]) (fun _ _ _=>rfl)).trans ?_
 split
 ·rfl
 ·rename_i e;have hr:=(j4 hI (by simpa using e)).1;dsimp only;rw[Ar,show((((Í (ċ b [n]).1).length:Int)+1,Û (ċ b [n]).1):Sys)=TY (ċ b [n]).1 from rfl,ad5 hr n hA hB,À];unfold aaj
  by_cases hp:(Ł (ċ b [n]).1 c).2=0
  ·rw[if_neg (by simp[hp]),if_neg (by simp[hp]),Ò (by rfl),an0 (ahe hp),À]
  ·rw[if_pos hp,if_pos hp,Ô (bne_iff_ne.2 hp)]
def akw (x:Int):Int:=max (-288230376151711744) (min x 288230376151711744)
def DT (w:LM) (l:Int×Int):List Int:=(ψ w.2.1++ψ w.2.2)++(tS w.2.1 l.1++tS w.2.2 (-l.1))++(tS w.2.1 l.2++tS w.2.2 (-l.2))
def ahw (w:LM) (l:Int×Int):Bool:=(T7 w.1 (DT w l)).all fun d=>qN (Pr w d) l != 3
def Pd (b:Þ) (n l:Int×Int) (c:Cmp):Bool×Int :=
 if (ċ b [n]).2≠0 then(false,(ċ b [n]).2) else if l.2<l.1 then(false,1) else if (Ł (ċ b [n]).1 c).2≠0 then(false,(Ł (ċ b [n]).1 c).2) else(ahw (abe (ċ b [n]).1 n c) (akw l.1,akw l.2),0)
def ai5 {ρ:Type}:@sV ρ=@ĕ ρ:=rfl
def aqb (x:Int):lU x=some (akw x):=by
 unfold lU wd akw;rw[Ap,agv]
def OZ {e:End} (h:aa9 e) {n:Int} (hn : -300000000000000000≤n∧n≤300000000000000000):∀m∈tS e n,-1000000000000000000≤m∧m≤1000000000000000000:=by
 obtain⟨⟨a1,a2⟩,⟨b1,b2⟩,c1,c2⟩:=h;intro m hm;unfold tS at hm;simp only[List.mem_cons,List.not_mem_nil,or_false] at hm;omega
def akl {b:Þ} (hI:In b) (n l:Int×Int) {c:Cmp} (hA:c.2.2.1.length≤1000) (hB:c.2.2.2.1.length≤1000):qz b n l c=some (Pd b n l c):=by
 unfold qz EH Pd;rw[ai5];refine(vB hI (ns:=[n]) (by simp) (fun e=>some (false,e)) (fun e he=>by rw[Ô (by simp[ine,he])]) (fun z he=>by rw[Ô (by simp[ine,he])]) (fun _ _ _=>rfl)).trans ?_
 split
 ·rfl
 ·rename_i e;have hr:=(j4 hI (by simpa using e)).1;dsimp only
  by_cases hl:l.2<l.1
  ·rw[Ô (by simp[igt,hl]),if_pos hl]
  ·rw[Ò (by simp[igt]; omega),if_neg hl,Ar,show((((Í (ċ b [n]).1).length:Int)+1,Û (ċ b [n]).1):Sys)=TY (ċ b [n]).1 from rfl,ad5 hr n hA hB,À];unfold aaj
   by_cases hp:(Ł (ċ b [n]).1 c).2=0
   ·rw[if_neg (by simp[hp]),if_neg (by simp[hp]),Ò (by rfl)];have hw:=ahe (n:=n) hp;dsimp only;generalize abe (ċ b [n]).1 n c=w at hw ⊢
    have f1 : -300000000000000000≤akw l.1∧akw l.1≤300000000000000000:=by unfold akw; omega
    have f2 : -300000000000000000≤akw l.2∧akw l.2≤300000000000000000:=by unfold akw; omega
    have q1:([ψ w.2.1,ψ w.2.2]:List (List Int)).flatten=ψ w.2.1++ψ w.2.2:=by simp
    have q2:∀x y z:List Int,([x,y,z]:List (List Int)).flatten=x++(y++z):=by intro x y z; simp
    rw[OK hw.high,À,OK hw.low,À,pD (by simp) (by rw[q1]; simp[ψ]),À,q1,aqb,À,aqb,À];generalize akw l.1=l1 at f1 ⊢;generalize akw l.2=l2 at f2 ⊢
    rw[OY hw.high (by omega),À,Õ (by omega) (by omega),Int.zero_sub,OY hw.low (by omega),À,pD (by simp) (by rw[q2]; simp[ψ,tS]),À,q2,
     OY hw.high (by omega),À,Õ (by omega) (by omega),Int.zero_sub,OY hw.low (by omega),À,pD (by simp) (by rw[q2]; simp[ψ,tS]),À,q2]
    have hll:(DT w (l1,l2)).length=18:=rfl;have qs:ψ w.2.1++ψ w.2.2++(tS w.2.1 l1++tS w.2.2 (-l1))++(tS w.2.1 l2++tS w.2.2 (-l2))=DT w (l1,l2):=rfl
    rw[qs,alw w (by rw[hll]; omega) (fun m hm=>by
     unfold DT at hm;simp only[List.mem_append] at hm;rcases hm with((hm|hm)|(hm|hm))|(hm|hm)
     ·have:=OL hw.high m hm; omega
     ·have:=OL hw.low m hm; omega
     ·have:=OZ hw.high f1 m hm; omega
     ·have:=OZ hw.low (n:=-l1) (by omega) m hm; omega
     ·have:=OZ hw.high f2 m hm; omega
     ·have:=OZ hw.low (n:=-l2) (by omega) m hm; omega),À]
    have hnl:=ahX w.1 (l:=DT w (l1,l2)) (by rw[hll]; omega);have hsm:=alv hw (l:=DT w (l1,l2));unfold ahw;generalize T7 w.1 (DT w (l1,l2))=ds at hnl hsm ⊢;refine(ī ds (fun d=>qN (Pr w d) (l1,l2)==3) (fun z30=>some ((!(ige z30 (0:Int))),(0:Int))) (some (false,0)) (some (true,0)) (fun j=>by rw[show ige (j:Int) 0=true from decide_eq_true (by omega)]; rfl) (fun i d hi hd kn=>?_) (fun kn=>?_)).trans ?_
    ·try dsimp only
     unfold m8;rw[Ó hi,É hd,show Ř ((w.1.1,w.1.2),(w.2.1.1,w.2.1.2.1,w.2.1.2.2),w.2.2.1,w.2.2.2.1,w.2.2.2.2) d=Ř w d from rfl,akR hw (hsm d (List.mem_of_getElem? hd)),À,VZ,À,Ì hi (by omega),Ė]
    ·try dsimp only
     unfold m8;rw[Ü]
    ·rw[show(fun d=>qN (Pr w d) (l1,l2) != 3)=(fun d=>!(qN (Pr w d) (l1,l2)==3)) from rfl,←List.not_any_eq_all_not]
     cases ds.any fun d=>qN (Pr w d) (l1,l2)==3<;>rfl
   ·rw[if_pos hp,if_pos hp,Ô (bne_iff_ne.2 hp)]
def ml (b:Þ) (n:Int×Int):Prop:=∃g∈b.2.1,g.1=n.1∧n.2∈à b g
theorem aao {b:Þ} (h:Č b) {n:Int×Int}:mN b n.1 n.2≠0↔ml b n:=by
 unfold mN;constructor
 ·intro hne
  cases hx:iD (Í b) n.1 n.2 with
  |none=>rw[hx] at hne; simp at hne
  |some j =>
   have hm:=List.mem_of_getElem? (kQ hx).2;unfold Í at hm;obtain⟨g,hg,hd⟩:=List.mem_flatMap.1 hm;obtain⟨d,hd,e⟩:=List.mem_map.1 hd;simp only[Prod.mk.injEq] at e;obtain⟨e1,rfl⟩:=e;exact⟨g,hg,e1,hd⟩
 ·rintro⟨g,hg,e,hd⟩;obtain⟨i,hi,rfl⟩:=List.mem_iff_getElem.1 hg;obtain⟨k,hk,e2⟩:=List.mem_iff_getElem.1 hd;rw[←e,Yi h (List.getElem?_eq_getElem hi) (by rw[List.getElem?_eq_getElem hk,e2])];dsimp only;omega
theorem aec (b:Þ) (x d:Int):mN b x d=Ŷ b x d:=rfl
theorem amv (b:Þ) (n:Int×Int) (g:é) {d:Int} (hd:d∈à b g):d∈à (jr b n) g:=by
 unfold à at hd ⊢;rw[mX] at hd ⊢;unfold aaC jr at *;simp only[List.mem_append,List.mem_map,List.mem_filter] at hd ⊢;rcases hd with(h|h)|⟨m,⟨h1,h2⟩,h3⟩
 ·exact .inl (.inl h)
 ·exact .inl (.inr h)
 ·exact .inr ⟨m,⟨.inl h1,h2⟩,h3⟩
theorem alL {b:Þ} (n:Int×Int) (h':Č (jr b n)):ml (jr b n) n:=by
 have hu:=h'.looks n (by simp[jr]);unfold abi at hu
 split at hu
 ·omega
 obtain⟨g,hg,_⟩:=A7 h' hu;obtain⟨hm,e⟩:=Φ hg;refine⟨g,hm,e,?_⟩;unfold à;rw[mX];unfold aaC jr;simp only[List.mem_append,List.mem_map,List.mem_filter];exact .inr ⟨n,⟨.inr (by simp),by simp[e]⟩,rfl⟩
theorem Po {b:Þ} {n:Int×Int} (e:(jS b n).2=0):(jS b n=(b,0)∧mN b n.1 n.2≠0)∨(jS b n=(jr b n,0)∧Č (jr b n)∧mN b n.1 n.2=0):=by
 unfold jS at e ⊢
 split
 ·rename_i h; exact .inl ⟨rfl,h⟩
 ·rename_i h1;rw[if_neg h1] at e
  split
  ·rename_i h2; rw[if_pos h2] at e; exact absurd e h2
  ·rename_i h2; exact .inr ⟨rfl,(ì _).1 (by simpa using h2),by simpa using h1⟩
theorem abG:∀{ns:List (Int×Int)} {b:Þ},(ŋ b ns).2=0→∀n,ml b n→ml (ŋ b ns).1 n
 |[],b,_,n,hn=>hn
 |m::t,b,e,n,hn=>by
  unfold ŋ at e ⊢
  split
  ·rename_i h1; rw[if_pos h1] at e; exact absurd e h1
  ·rename_i h1;rw[if_neg h1] at e;refine abG e n ?_;rcases Po (by simpa using h1) with⟨h,_⟩|⟨h,_,_⟩
   ·rw[h]; exact hn
   ·rw[h];obtain⟨g,hg,e1,hd⟩:=hn;exact⟨g,hg,e1,amv b m g hd⟩
theorem abF:∀{ns:List (Int×Int)} {b:Þ},Č b→(ŋ b ns).2=0→∀n∈ns,ml (ŋ b ns).1 n
 |[],b,_,_,n,hn=>by simp at hn
 |m::t,b,hg,e,n,hn=>by
  unfold ŋ at e ⊢
  split
  ·rename_i h1; rw[if_pos h1] at e; exact absurd e h1
  ·rename_i h1;rw[if_neg h1] at e
   have h1':(jS b m).2=0:=by simpa using h1
   rcases df.1 hn with rfl|hn
   ·refine abG e n ?_;rcases Po h1' with⟨h,h2⟩|⟨h,h2,_⟩
    ·rw[h]; exact(aao hg).1 h2
    ·rw[h]; exact alL n h2
   ·exact abF (abt hg h1') e n hn
theorem alM {b:Þ} {n:Int×Int} {f:Int→Int→Int} {z:Int}:Pf (jr b n) f z↔Pf b f z :=
 ⟨fun h=>⟨fun g hg=>by have:=h.gauge g hg; exact⟨this.hi,this.lo,this.down,this.loss⟩,h.cmp⟩,fun h=>⟨fun g hg=>by have:=h.gauge g hg; exact⟨this.hi,this.lo,this.down,this.loss⟩,h.cmp⟩⟩
theorem abH:∀{ns:List (Int×Int)} {b:Þ},(ŋ b ns).2=0→∀{f:Int→Int→Int} {z:Int},Pf (ŋ b ns).1 f z↔Pf b f z
 |[],b,_,f,z=>Iff.rfl
 |m::t,b,e,f,z=>by
  unfold ŋ at e ⊢
  split
  ·rename_i h1; rw[if_pos h1] at e; exact absurd e h1
  ·rename_i h1;rw[if_neg h1] at e;rw[abH e];rcases Po (by simpa using h1) with⟨h,_⟩|⟨h,_,_⟩
   ·rw[h]
   ·rw[h]; exact alM
section
variable {B:Þ} (h:anw B)
include h
theorem aoA {p:Int→Int} {f:Int→Int→Int} (hm:∀g∈B.2.1,∀d∈à B g,f g.1 d=p (Ŷ B g.1 d)) {n:Int×Int} (hn:ml B n):p (mN B n.1 n.2)=f n.1 n.2:=by
 obtain⟨g,hg,e,hd⟩:=hn;rw[aec,←e,hm g hg n.2 hd]
theorem ahD (f:Int→Int→Int) (z:Int) {n:Int×Int} (hn:ml B n):Nr B f z (mN B n.1 n.2)=f n.1 n.2:=by
 obtain⟨g,hg,e,hd⟩:=hn;rw[aec,←e,yl h.good f z hg hd]
theorem iv_in {n:Int×Int} (hn:ml B n) {f:Int→Int→Int} {z:Int} (hh:Pf B f z):(ivR B n).1≤f n.1 n.2-z∧f n.1 n.2-z≤(ivR B n).2:=by
 have hp:=aic h.good hh;have a1:=Ly h.good.sys h.good.tied h.op (ŗ B n) (ń B) hp;have a2:=Ly h.good.sys h.good.tied h.op (ń B) (ŗ B n) hp;rw[ahD h f z hn,lg] at a1 a2;unfold ivR Ow;dsimp only;omega
theorem aoS {n:Int×Int} (hn:ml B n) {t:Int} (h1:(ivR B n).1≤t) (h2:t≤(ivR B n).2):∃f z,Pf B f z∧f n.1 n.2-z=t:=by
 obtain⟨p,hp,e⟩:=ams h.good.sys h.good.tied h.op (ŗ B n) (ń B) (t:=t) h1 h2;obtain⟨f,hf,hm⟩:=ahE h.good hp;exact⟨f,p 0,hf,by rw[←aoA h hm hn]; exact e⟩
theorem ah8 (n:Int×Int):(ivR B n).1≤(ivR B n).2:=Jf h.good.sys h.good.tied h.op (ŗ B n) (ń B)
end
structure Asked (b:Þ) (ns:List (Int×Int)) (B:Þ):Prop where
 room:anw B
 nodes:∀n∈ns,ml B n
 hist:∀{f:Int→Int→Int} {z:Int},Pf B f z↔Pf b f z
 good:Č b
 gauges:B.2.1=b.2.1
theorem ajh {b:Þ} (hI:In b) {ns:List (Int×Int)} (e:(ċ b ns).2=0):Asked b ns (ċ b ns).1:=by
 obtain⟨h1,h2,h3,h4⟩:=j4 hI e;exact⟨h1,by rw[h2]; exact abF h4 h3,by rw[h2]; exact abH h3,h4,by rw[h2]; exact vy h3⟩
def XC (c:Cmp):Bool:=decide (c.2.2.1.length≤10)&&decide (c.2.2.2.1.length≤10)
theorem anc (c:Cmp):Bn c=some (XC c):=by
 unfold Bn J2 XC;rw[á,á,Ė]
 by_cases h:c.2.2.1.length≤10
 ·rw[if_pos (by simp[ile]; omega)];simp[ile,h];omega
 ·rw[if_neg (by simp[ile]; omega)];simp[h]
def fewP (b:Þ):Bool :=
 !((b.2.2.2.2.1.take 50).any fun c=>!XC c)&&(decide (b.2.1.length≤14)&&(decide (b.2.2.1.length≤45)&&(decide (b.2.2.2.1.length≤14)&&(decide (b.2.2.2.2.1.length≤42)&&decide (b.2.2.2.2.2.length≤12)))))
theorem aqa (b:Þ):IV b=some (fewP b):=by
 unfold IV Yp
 have last:(ifb (ile (Ú b.2.1) (14:Int)) (ifb (ile (Ú b.2.2.1) (45:Int)) (ifb (ile (Ú b.2.2.2.1) (14:Int)) (ifb (ile (Ú b.2.2.2.2.1) (42:Int)) (some (ile (Ú b.2.2.2.2.2) (12:Int))) (some false)) (some false)) (some false)) (some false)) =
  some (decide (b.2.1.length≤14)&&(decide (b.2.2.1.length≤45)&&(decide (b.2.2.2.1.length≤14)&&(decide (b.2.2.2.2.1.length≤42)&&decide (b.2.2.2.2.2.length≤12))))):=by
  have e:∀(n m:Nat),ile (n:Int) (m:Int)=decide (n≤m):=fun n m=>by simp[ile]
  rw[á,á,á,á,á,show(14:Int)=((14:Nat):Int) from rfl,show(45:Int)=((45:Nat):Int) from rfl,show(42:Int)=((42:Nat):Int) from rfl,show(12:Int)=((12:Nat):Int) from rfl,e,e,e,e,e];generalize decide (b.2.1.length≤14)=x1;generalize decide (b.2.2.1.length≤45)=x2;generalize decide (b.2.2.2.1.length≤14)=x3;generalize decide (b.2.2.2.2.1.length≤42)=x4
  cases x1<;>cases x2<;>cases x3<;>cases x4<;>rfl
 rw[last];refine eG (ī (b.2.2.2.2.1.take 50) (fun c=>!XC c) (fun _=>some false) (some false) (some (decide (b.2.1.length≤14)&&(decide (b.2.2.1.length≤45)&&(decide (b.2.2.2.1.length≤14)&&(decide (b.2.2.2.2.1.length≤42)&&decide (b.2.2.2.2.2.length≤12)))))) (fun _=>rfl) (fun i c hi hc kn=>?_) (fun kn=>?_)) ?_
 ·try dsimp only
  unfold vF;rw[List.length_take] at hi
  have hc':b.2.2.2.2.1[i]?=some c:=by rw[eD] at hc; split at hc<;>simp_all
  rw[Ó (show i<b.2.2.2.2.1.length by omega),Ô (decide_eq_true (by omega)),É hc',anc,À,Õ (by omega) (by omega),Ė]
 ·try dsimp only
  unfold vF;rw[List.length_take,Ė]
  split
  ·rename_i h
   have h':50<b.2.2.2.2.1.length:=by rw[á] at h; simp[ilt] at h; omega
   rw[Ò (decide_eq_false (by omega))]
  ·rfl
 ·unfold fewP
  cases List.any (List.take 50 b.2.2.2.2.1) (fun c=>!XC c)<;>rfl
theorem ail {b:Þ} (h:fewP b=true):ō b:=by
 simp only[fewP,cW,eO,decide_eq_true_eq] at h;obtain⟨h0,h1,h2,h3,h4,h5⟩:=h;refine⟨by omega,by omega,by omega,by omega,by omega,fun c hc=>?_⟩;rw[ee (by omega)] at h0;have:=ew.1 h0 c hc;simp[XC] at this;omega
section
variable {L:List Lk} {N:Nat} {x y H G:Int}
def aip (h:Ħ L N) (ht:ya L N) (ho:ħ L N=true) {s t:Int} (hs:0≤s∧s<N) (hv:0≤t∧t<N):∃vs,Wl L (fun u=>u=s) vs t (dst L N s t):=by
 have h2:=h.n60;obtain⟨p,hp⟩:=(Ļ h.links (by omega)).1 ho;obtain⟨vs,hw⟩:=(χ h.links (by omega) hp hs).att t hv.1 hv.2 (aeu h ht ho hs hv);exact⟨vs,PO.1 hw⟩
def agF (h:Ħ L N) (ho:ħ L N=true) {s t d:Int} (hs:0≤s∧s<N) {vs:List Int} (hw:Wl L (fun u=>u=s) vs t d):dst L N s t≤d:=by
 have h2:=h.n60;obtain⟨p,hp⟩:=(Ļ h.links (by omega)).1 ho;exact(χ h.links (by omega) hp hs).low t vs d (PO.2 hw)
end
inductive Wk (L:List Lk) (to:Int):Nat→Int→Int→Prop
 |nil:Wk L to 0 to 0
 |step {k:Nat} {v w m d:Int}:(v,w,m)∈L→Wk L to k w d→Wk L to (k+1) v (m+d)
section
variable {L:List Lk} {N:Nat}
def Wk.snoc {u v m:Int} (hl:(u,v,m)∈L):∀{k:Nat} {s d:Int},Wk L u k s d→Wk L v (k+1) s (d+m):=by
 intro k s d h
 induction h with
 |nil =>
  have:=Wk.step hl (Wk.nil (L:=L) (to:=v))
  have e:m+0=0+m:=by omega
  rw[e] at this;exact this
 | @step k a w m' d h1 h2 ih =>
  have:=Wk.step h1 ih
  have e:m'+(d+m)=m'+d+m:=by omega
  rw[e] at this;exact this
def Wl.wk {S:Int→Prop} {vs:List Int} {t d:Int} (h:Wl L S vs t d):∃s,S s∧Wk L t vs.length s d:=by
 induction h with
 | @nil v hv=>exact⟨v,hv,.nil⟩
 | @step vs u v m d h1 h2 ih =>
  obtain⟨s,hs,h⟩:=ih;exact⟨s,hs,h.snoc h2⟩
def Wl.front {s w m:Int} (hl:(s,w,m)∈L) {vs:List Int} {t d:Int} (h:Wl L (fun u=>u=w) vs t d):Wl L (fun u=>u=s) (vs++[s]) t (m+d):=by
 induction h with
 | @nil v hv =>
  have hv':v=w:=hv;subst hv';have:=Wl.step (Wl.nil (L:=L) (S:=fun u=>u=s) rfl) hl
  have e:0+m=m+0:=by omega
  rw[e] at this;exact this
 | @step vs u v m' d h1 h2 ih =>
  have:=Wl.step ih h2
  have e:m+d+m'=m+(d+m'):=by omega
  rw[e] at this;exact this
def Wk.wl {t:Int} {k:Nat} {s d:Int} (h:Wk L t k s d):∃vs,vs.length=k∧Wl L (fun u=>u=s) vs t d:=by
 induction h with
 |nil=>exact⟨[],rfl,.nil rfl⟩
 | @step k v w m d h1 h2 ih =>
  obtain⟨vs,e,h⟩:=ih;exact⟨vs++[v],by simp[e],h.front h1⟩
def Wk.bd (hS:Ħ L N) {t:Int} {k:Nat} {s d:Int} (h:Wk L t k s d) : -(k*4503599627370496)≤d∧d≤k*4503599627370496:=by
 induction h with
 |nil=>omega
 | @step k v w m d h1 h2 ih =>
  have:=hS.most _ h1;dsimp only at this;push_cast;omega
def agx {v:Int} (h0:0≤v) (h1:v<N):gv (List.replicate N Ģ) v=Ģ:=by
 unfold gv;rw[List.getElem?_replicate,if_pos (by omega)];rfl
def aoM {B:Int} (hB:B≤1100000000000000000) {x:List Int} (hx:Lim B x) (v:Int):gv x v≤Ģ:=by
 by_cases h:gv x v=Ģ
 ·omega
 ·have:=hx v h; unfold Ģ; omega
def SY (hS:Ħ L N) {B:Int} (hB:0≤B) (hB2:B≤1000000000000000000) {x:List Int} (hx:Lim B x) {v:Int} (h0:0≤v) (h1:v<N) :
 ∀(M:List Lk),(∀l∈M,l∈L)→∀y:List Int,y.length=N→Lim (B+4503599627370496) y →
  gv (M.foldl (jw x) y) v≤gv y v∧(∀w m,(v,w,m)∈M→gv x w≠Ģ→gv (M.foldl (jw x) y) v≤m+gv x w) ∧
  (gv (M.foldl (jw x) y) v=gv y v∨∃w m,(v,w,m)∈M∧gv x w≠Ģ∧gv (M.foldl (jw x) y) v=m+gv x w)
 |[],_,y,_,_=>⟨dE _,fun _ _ h=>by simp at h,.inl rfl⟩
 |l::M,hM,y,hl,hy=>by
  rw[fQ];have hlm:=hM l (by simp);obtain⟨i1,i2,i3⟩:=SY hS hB hB2 hx h0 h1 M (fun m hm=>hM m (by simp[hm])) (jw x y l) (by rw[Lu,hl]) (ah3 hS hB hB2 hx hy hl hlm);have hr:=hS.inr l hlm;have hyF:=aoM (by omega) hy
  -- the element behind one link
  have key:gv (jw x y l) v≤gv y v∧(l.1=v→gv x l.2.1≠Ģ→gv (jw x y l) v≤l.2.2+gv x l.2.1)∧(gv (jw x y l) v=gv y v∨(l.1=v∧gv x l.2.1≠Ģ∧gv (jw x y l) v=l.2.2+gv x l.2.1)):=by
   unfold jw
   by_cases hf:gv x l.2.1=Ģ
   ·rw[if_pos hf];exact⟨dE _,fun _ h=>absurd hf h,.inl rfl⟩
   ·rw[if_neg hf,sv hr.1.1 h0 (by omega)]
    by_cases hv:v=l.1
    ·rw[if_pos hv,hv];refine⟨by omega,fun _ _=>by omega,?_⟩
     by_cases hc:gv y l.1≤l.2.2+gv x l.2.1
     ·exact .inl (by omega)
     ·exact .inr ⟨rfl,hf,by omega⟩
    ·rw[if_neg hv];exact⟨dE _,fun h=>absurd h.symm hv,.inl rfl⟩
  obtain⟨k1,k2,k3⟩:=key;refine⟨by omega,fun w m hm hw=>?_,?_⟩
  ·rcases df.1 hm with h|h
   ·subst h;have:=k2 rfl hw;dsimp only at this;omega
   ·exact i2 w m h hw
  ·rcases i3 with h|⟨w,m,h,hw,e⟩
   ·rcases k3 with h'|⟨h',hw,e⟩
    ·exact .inl (h.trans h')
    ·refine .inr ⟨l.2.1,l.2.2,?_,hw,h.trans e⟩;rw[←h']; simp
   ·exact .inr ⟨w,m,by simp[h],hw,e⟩
def aaB (hS:Ħ L N) {to:Int} (ht:0≤to∧to<N):∀k:Nat,k≤200→∀v:Int,0≤v→v<N →
 (gv (exL L N to k) v≠Ģ→Wk L to k v (gv (exL L N to k) v))∧∀d,Wk L to k v d→gv (exL L N to k) v≤d∧gv (exL L N to k) v≠Ģ
 |0,_,v,h0,h1=>by
  unfold exL;rw[sv ht.1 h0 (by simp; omega)]
  by_cases hv:v=to
  ·subst hv;rw[if_pos rfl];refine⟨fun _=>.nil,fun d hd=>?_⟩;cases hd;exact⟨dE _,by decide⟩
  ·rw[if_neg hv,agx h0 h1];refine⟨fun h=>absurd rfl h,fun d hd=>?_⟩;cases hd;exact absurd rfl hv
 |k+1,hk,v,h0,h1=>by
  have hlim:=SE hS ht k (by omega);obtain⟨i1,i2,i3⟩:=SY hS (B:=k*4503599627370496) (by omega) (by omega) hlim h0 h1 L (fun _ h=>h) (List.replicate N Ģ) (by simp) (aag (by omega));have ih:=aaB hS ht k (by omega);unfold exL Xt;refine⟨fun hf=>?_,fun d hd=>?_⟩
  ·rcases i3 with h|⟨w,m,h,hw,e⟩
   ·rw[agx h0 h1] at h; exact absurd h hf
   ·rw[e];have hwr:=(hS.inr _ h).2;exact .step h ((ih w hwr.1 hwr.2).1 hw)
  ·have hb:=Wk.bd hS hd
   cases hd with
   | @step k' v' w m d h h2 =>
    have hwr:=(hS.inr _ h).2;obtain⟨j1,j2⟩:=(ih w hwr.1 hwr.2).2 d h2;have:=i2 w m h j2;refine⟨by omega,?_⟩
    have hq:(m+d)≤1000000000000000000:=by push_cast at hb; omega
    intro hF;rw[hF] at this;unfold Ģ at this;omega
def ao5 (hS:Ħ L N) {to:Int} (ht:0≤to∧to<N) {k:Nat} (hk:k+1≤200) {u:Int} (hu:0≤u∧u<N) (hf:gv (exL L N to (k+1)) u≠Ģ) :
 ∃w m,(u,w,m)∈L∧gv (exL L N to k) w≠Ģ∧gv (exL L N to (k+1)) u=m+gv (exL L N to k) w:=by
 have hlim:=SE hS ht k (by omega);obtain⟨_,_,i3⟩:=SY hS (B:=k*4503599627370496) (by omega) (by omega) hlim hu.1 hu.2 L (fun _ h=>h) (List.replicate N Ģ) (by simp) (aag (by omega));have e:exL L N to (k+1)=L.foldl (jw (exL L N to k)) (List.replicate N Ģ):=rfl;rw[e] at hf ⊢;rcases i3 with h|h
 ·rw[agx hu.1 hu.2] at h; exact absurd h hf
 ·exact h
def SW (hS:Ħ L N) {to:Int} (ht:0≤to∧to<N) (good:Int→Bool):∀(k:Nat),k≤200→∀(u sum:Int) (out:List Int),0≤u→u<N→gv (exL L N to k) u≠Ģ→good (sum+gv (exL L N to k) u)=true →
 ∃q,mO L (exL L N to) good k u sum out=out++q∧q.length=k∧(∀i∈q,i7 L i=false)∧∃s,l7 L u sum q=(to,s,true)∧good s=true
 |0,_,u,sum,out,h0,h1,hf,hg=>by
  have hu:u=to:=by
   have hw:=((aaB hS ht 0 (by omega) u h0 h1).1 hf);generalize gv (exL L N to 0) u=y at hw;cases hw;rfl
  subst hu
  have e:gv (exL L N u 0) u=0:=by
   unfold exL;rw[sv ht.1 h0 (by simp; omega),if_pos rfl]
  rw[e,f0] at hg;exact⟨[],by simp[mO],rfl,by simp,sum,rfl,hg⟩
 |k+1,hk,u,sum,out,h0,h1,hf,hg=>by
  obtain⟨w,m,hl,hw,e⟩:=ao5 hS ht hk ⟨h0,h1⟩ hf;unfold mO PQ
  cases hn:L.findIdx? (fun l=>l.1==u&&(decide (gv (exL L N to k) l.2.1≠Ģ)&&good (sum+l.2.2+gv (exL L N to k) l.2.1))) with
  |none =>
   have:=dT.1 hn (u,w,m) hl;rw[e,←Int.add_assoc] at hg;simp[hw,hg] at this
  |some i =>
   obtain⟨hi,hp,_⟩:=List.findIdx?_eq_some_iff_getElem.1 hn;have hg2:L[i]?=some L[i]:=List.getElem?_eq_getElem hi;have hm:=List.mem_of_getElem? hg2;generalize L[i]=x at hp hg2 hm;simp only[Bool.and_eq_true,beq_iff_eq,decide_eq_true_eq] at hp;obtain⟨p1,p2,p3⟩:=hp;have hr:=(hS.inr x hm).2;obtain⟨q,q1,q2,q3,s,q4,q5⟩:=SW hS ht good k (by omega) x.2.1 (sum+x.2.2) (out++[(i:Int)]) hr.1 hr.2 p2 p3;dsimp only;rw[hg2];simp only[Option.getD_some];refine⟨(i:Int)::q,by rw[q1]; simp,by simp[q2],fun j hj=>?_,s,?_,q5⟩
   ·rcases df.1 hj with rfl|hj
    ·simp[i7]; omega
    ·exact q3 j hj
   ·unfold l7;rw[Int.toNat_natCast,hg2];simp only[Option.getD_some];rw[if_pos p1];exact q4
def amr (hS:Ħ L N) (ht:ya L N) (ho:ħ L N=true) {u v:Int} (hu:0≤u∧u<N) (hv:0≤v∧v<N):∃k,k≤N∧gv (exL L N v k) u=dst L N u v:=by
 have hn:=hS.n60;obtain⟨vs,hw⟩:=aip hS ht ho hu hv;obtain⟨p,hp⟩:=(Ļ hS.links (by omega)).1 ho;obtain⟨vs',d',h1,h2,h3⟩:=hw.simple hp;have hlow:=agF hS ho hu h1
 have hd:d'=dst L N u v:=by omega
 subst hd;have hlen:=h1.short hS.inr (fun w (hw:w=u)=>by rw[hw]; exact hu) h3;obtain⟨s,hs,hk⟩:=h1.wk;have hs':s=u:=hs;subst hs';obtain⟨e1,e2⟩:=aaB hS hv vs'.length (by omega) s hu.1 hu.2;obtain⟨e3,e4⟩:=e2 _ hk;obtain⟨ws,_,hws⟩:=(e1 e4).wl;have:=agF hS ho hu hws;exact⟨vs'.length,by omega,by omega⟩
def Ng (hS:Ħ L N) (ht:ya L N) (ho:ħ L N=true) {u v:Int} (hu:0≤u∧u<N) (hv:0≤v∧v<N):(DN L N u v).2=0∧ù L u v (DN L N u v).1=(dst L N u v,0):=by
 have hn:=hS.n60
 have hB:g9 L N u v=(dst L N u v,0):=by rw[vt hS ht hu hv,if_pos ho]
 unfold DN;rw[hB];dsimp only;rw[if_neg (by simp)];obtain⟨k,hk,he⟩:=amr hS ht ho hu hv
 cases hf:(lW L N v N).findIdx? (fun x=>gv x u==dst L N u v) with
 |none =>
  have:=dT.1 hf (exL L N v k) (cZ (vl hk));simp[he] at this
 |some j =>
  obtain⟨hj,hp,_⟩:=dN.1 hf
  have hj':j≤N:=by rw[jP] at hj; omega
  have hg:(lW L N v N)[j]?=some (lW L N v N)[j]:=cQ hj;rw[vl hj'] at hg;rw[←Option.some.inj hg] at hp
  have hp':gv (exL L N v j) u=dst L N u v:=by simpa using hp
  have hne:gv (exL L N v j) u≠Ģ:=by rw[hp']; exact aeu hS ht ho hu hv
  obtain⟨q,q1,q2,q3,s,q4,q5⟩:=SW hS hv (fun n=>ieq n (dst L N u v)) j (by omega) u 0 [] hu.1 hu.2 hne (by rw[hp',Int.zero_add]; simp[ieq]);dsimp only;rw[q1,List.nil_append];refine⟨rfl,?_⟩
  have hsum:s=dst L N u v:=by simpa[ieq] using q5
  have hb:q.any (i7 L)=false:=by
   rw[ew]
   exact fun i hi=>by rw[q3 i hi]; simp
  have hix:iL L q=0:=by
   unfold iL;rw[if_neg (by omega),hb];rfl
  unfold ù;rw[hix,if_neg (by simp),q4];dsimp only;rw[if_pos ⟨rfl,rfl⟩,hsum]
def aoO {P:Int→Prop} {B:Int} (h:∃d,P d) (hB:∀d,P d→B≤d):∃d,P d∧∀e,P e→d≤e:=by
 obtain⟨d0,h0⟩:=h
 have:∀(n:Nat) (d:Int),P d→(d-B).toNat≤n→∃d,P d∧∀e,P e→d≤e:=by
  intro n
  induction n with
  |zero=>intro d hd hn; exact⟨d,hd,fun e he=>by have:=hB e he; have:=hB d hd; omega⟩
  |succ n ih =>
   intro d hd hn
   by_cases hx:∃e,P e∧e<d
   ·obtain⟨e,he,hl⟩:=hx;exact ih e he (by have:=hB e he; omega)
   ·exact⟨d,hd,fun e he=>by
     rcases gG e d with q|q
     ·exact absurd ⟨e,he,q⟩ hx
     ·exact q⟩
 exact this _ d0 h0 (cR _)
def Wl.cutK {S:Int→Prop} {vs:List Int} {u d:Int} (h:Wl L S vs u d):∀x∈u::vs,∃vs1 d1 k d2,Wl L S vs1 x d1∧(x::vs1) <:+ (u::vs)∧Wk L u k x d2∧d=d1+d2∧k≤vs.length:=by
 induction h with
 | @nil v hv =>
  intro x hx;simp at hx;subst hx;exact⟨[],0,0,0,.nil hv,List.suffix_refl _,.nil,by omega,by simp⟩
 | @step vs u v m d hw hl ih =>
  intro x hx;rcases df.1 hx with rfl|hx
  ·exact⟨u::vs,d+m,0,0,.step hw hl,List.suffix_refl _,.nil,by omega,by simp⟩
  ·obtain⟨vs1,d1,k,d2,g1,g2,g3,g4,g5⟩:=ih x hx;exact⟨vs1,d1,k+1,d2+m,g1,g2.trans (List.suffix_cons _ _),g3.snoc hl,by omega,by simp; omega⟩
def WB (hS:Ħ L N) (hno:ħ L N=false):∃(k:Nat) (v d:Int),1≤k∧k≤N∧(0≤v∧v<N)∧Wk L v k v d∧d<0:=by
 have hn:=hS.n60;apply Classical.byContradiction;intro hc
 have hcl:∀{k:Nat} {v d:Int},1≤k→k≤N→(0≤v∧v<N)→Wk L v k v d→0≤d:=fun {k v d} h1 h2 h3 h4=>by
  rcases gG d 0 with q|q
  ·exact absurd ⟨k,v,d,h1,h2,h3,h4,q⟩ hc
  ·exact q
 have hinr:∀l∈L,-4503599627370496≤l.2.2:=fun l hl=>(hS.most l hl).1
 let P:Int→Int→Prop:=fun v d=>∃vs,Wl L (fun u=>0≤u∧u<N) vs v d∧(v::vs).Nodup
 have hP:∀v:Int,0≤v∧v<N→∃d,P v d∧∀e,P v e→d≤e:=fun v hv=>aoO (B:=-(60*4503599627370496)) ⟨0,[],.nil hv,by simp⟩ (by
  rintro d ⟨vs,h1,h2⟩;have q1:=h1.lowM hinr;have q2:=h1.short hS.inr (fun w hw=>hw) h2
  have:((vs.length:Nat):Int)*4503599627370496≤60*4503599627370496:=by omega
  omega)
 have ho:ħ L N=true:=by
  refine(Ļ hS.links (by omega)).2 ⟨fun v=>if hv:0≤v∧v<(N:Int) then Classical.choose (hP v hv) else 0,fun u v m hl=>?_⟩;have hr:=hS.inr _ hl;dsimp only at hr;obtain⟨⟨vs,hw,hnd⟩,hu2⟩:=Classical.choose_spec (hP u hr.1);obtain⟨_,hv2⟩:=Classical.choose_spec (hP v hr.2);have e1:(if hv:0≤u∧u<(N:Int) then Classical.choose (hP u hv) else 0)=Classical.choose (hP u hr.1):=dif_pos hr.1;have e2:(if hv:0≤v∧v<(N:Int) then Classical.choose (hP v hv) else 0)=Classical.choose (hP v hr.2):=dif_pos hr.2;dsimp only;rw[e1,e2];generalize Classical.choose (hP u hr.1)=a at *;generalize Classical.choose (hP v hr.2)=b at *
  by_cases hv:v∈u::vs
  ·obtain⟨vs1,d1,k,d2,g1,g2,g3,g4,g5⟩:=hw.cutK v hv;have hlen:=hw.short hS.inr (fun w hw=>hw) hnd;have:=hcl (by omega) (by omega) hr.2 (g3.snoc hl);have:=hv2 d1 ⟨vs1,g1,hnd.sublist g2.sublist⟩;omega
  ·have:=hv2 (a+m) ⟨u::vs,hw.step hl,fS.2 ⟨hv,hnd⟩⟩;omega
 rw[hno] at ho;cases ho
end
def ajX {b:Þ} (h:In b) (n:Int×Int) (upper:Bool):In (jQ b n upper).1.1:=by
 have h0:In i6:=⟨⟨by simp[i6],by simp[i6],by simp[i6],by simp[i6],by simp[i6],by simp[i6]⟩,by simp[i6]⟩;unfold jQ
 by_cases e:(ċ b [n]).2=0
 ·rw[if_neg (by simp[e])];have hr:=(j4 h e).1
  split
  ·exact h0
  ·split
   ·exact amB (hr.good.inn hr.num) _ (by simp)
   ·exact h0
 ·rw[if_pos e]; exact h0
def y1:JB exB (2,10)=((984,1011),0):=by decide +kernel
def y2:JB exB (1,30)=((964,1005),0):=by decide +kernel
def y3:abc exB (1,10) (2,10)=((-6,11),0):=by decide +kernel
def y4:arp exB 10 [1,2]=((1979,2018),0):=by decide +kernel
def y5:anR exB (2,0) (990,1010)=(3,0):=by decide +kernel
def y6:(jQ exB (2,10) true).2=0∧(jQ exB (2,10) true).1.2.2.2.1=1011:=by decide +kernel
def y7:aiQ exB (2,10) exC=(10,0):=by decide +kernel
def y8:Pd exB (2,10) (900,1100) exC=(true,0):=by decide +kernel
def y9:ag5 exB (jQ exB (2,10) true).1=(true,0):=by decide +kernel
def y10:ê exB=0∧ħ (Û exB) ((Í exB).length+1)=true:=by decide +kernel
def y11:ja (jQ exB (2,10) true).1=0:=by decide +kernel
def ai7:ż=some true:=by
 unfold ż Eb As yz;have hc:=ajX AD (2,10) true
 have hv:I64 (jQ exB (2,10) true).1.2.2.2.1:=by rw[y6.2]; unfold I64; omega
 rw[À];rw[show((((0:Int),(2:Int)),[((1:Int),(0:Int),(1000:Int),((-5:Int),(5:Int)),((1:Int),(10:Int)),(1:Int)),((2:Int),(0:Int),(1000:Int),((-50:Int),(50:Int)),((1:Int),(4:Int)),(0:Int))],[((1:Int),(10:Int))],[((1:Int),((20:Int),(29:Int)),(3:Int))],[((7:Int),(10:Int),[(1:Int)],[(2:Int)],(-20:Int),(1:Int),(100:Int),(200:Int))],([]:List (Int×Int))):Þ)=exB from rfl];rw[TV AD,À,TV AD,À,aku AD,À,aro AD _ (by decide),À,apX AD,À,XL AD,À,y1,y2,y3,y4,y5,y6.1,y6.2]
 rw[show Ay exB ((2:Int),(10:Int)) ((8:Int),(10:Int),[(1:Int)],[(2:Int)],(0:Int),(0:Int),(0:Int),(0:Int))=some (aiQ exB (2,10) exC) from apL AD _ (c:=exC) (by decide) (by decide),
  show qz exB ((2:Int),(10:Int)) ((900:Int),(1100:Int)) ((8:Int),(10:Int),[(1:Int)],[(2:Int)],(0:Int),(0:Int),(0:Int),(0:Int))=some (Pd exB (2,10) (900,1100) exC) from akl AD _ _ (c:=exC) (by decide) (by decide),
  ans AD hc hv,afn ((ì _).1 y10.1) AD.num y10.2,oa hc hv,y7,y8,y9,y11]
 rfl
theorem Ps {L:List Lk} {N:Nat} {v:Int} (h0:0≤v) (h1:v<N):gv (solP L N) v=gv (į L N) v-gv (į L N) 0:=by
 have hl:(į L N).length=N:=by unfold į; rw[ĸ,ÿ]
 have h2:v.toNat<(į L N).length:=by omega
 unfold solP;generalize gv (į L N) 0=z;unfold gv;rw[List.getElem?_map,List.getElem?_eq_getElem h2];rfl
theorem aol {L:List Lk} {N:Nat} (h:Ħ L N) (ho:ħ L N=true):Pot L (gv (solP L N))∧gv (solP L N) 0=0:=by
 have h2:=h.n60;have h1:=h.n1;obtain⟨p,hp⟩:=(Ļ h.links (by omega)).1 ho;refine⟨fun u v m hl=>?_,by rw[Ps (by omega) (by omega)]; omega⟩;have hr:=h.inr _ hl
 have hlen:(į L N).length=N:=by unfold į; rw[ĸ,ÿ]
 have hu:gv (į L N) u≤0:=(XQ h.links (by omega) ho _ (List.mem_of_getElem? (Xh (by omega)))).2;have:=(AZ h.links (by omega) hp).pot h.inr hl (by show gv (į L N) u≠Ģ; unfold Ģ; omega);have e1:=Ps (L:=L) hr.1.1 hr.1.2;have e2:=Ps (L:=L) hr.2.1 hr.2.2;dsimp only at e1 e2;have e:gv (į L N) v≤gv (į L N) u+m:=this;omega
section
variable {B:Þ} (h:anw B)
include h
theorem ao7 {v:Int} (hv:0≤v∧v<((Í B).length+1:Nat)):(-4503599627370496≤Ow B 0 v∧Ow B 0 v≤4503599627370496)∧(-4503599627370496≤Ow B v 0∧Ow B v 0≤4503599627370496):=by
 have a1:Ow B 0 v≤4503599627370496:=akh h.good.sys h.good.tied h.op hv.1 hv.2;have a2:Ow B v 0≤4503599627370496:=akg h.good.sys h.good.tied h.op hv.1 hv.2;have a3 : -(Ow B v 0)≤Ow B 0 v:=Jf h.good.sys h.good.tied h.op hv (ń B);omega
end
def TZ (N:Nat) (g:Int→Int):List Int:=(List.range N).map fun(v:Nat)=>g v
def B7 (N:Nat) (f:Int→Int→Int):List (List Int):=(List.range N).map fun(u:Nat)=>TZ N (f u)
section
variable {N:Nat} {ρ:Type}
def aot (g:Int→Int):(TZ N g).length=N:=by simp[TZ]
def aoc (f:Int→Int→Int):(B7 N f).length=N:=by simp[B7]
def oJ (g:Int→Int):Ĕ (TZ N g)=(N:Int):=by unfold Ĕ; rw[aot]
def vC (f:Int→Int→Int):Ĕ (B7 N f)=(N:Int):=by unfold Ĕ; rw[aoc]
def ahA (g:Int→Int) {v:Int} (h0:0≤v) (h1:v<N):(TZ N g)[v.toNat]?=some (g v):=by
 unfold TZ;rw[List.getElem?_map,List.getElem?_range (by omega),Option.map_some,show((v.toNat:Nat):Int)=v by omega]
def ahr (f:Int→Int→Int) {u:Int} (h0:0≤u) (h1:u<N):(B7 N f)[u.toNat]?=some (TZ N (f u)):=by
 unfold B7;rw[List.getElem?_map,List.getElem?_range (by omega),Option.map_some,show((u.toNat:Nat):Int)=u by omega]
def qV (f:Int→Int→Int) {u:Int} (h0:0≤u) (h1:u<N) (K:List Int→Option ρ):Ŋ (B7 N f) u.toNat K=K (TZ N (f u)):=oK (ahr f h0 h1) K
def mZ (g:Int→Int) {v:Int} (h0:0≤v) (h1:v<N) (K:Int→Option ρ):Ŋ (TZ N g) v.toNat K=K (g v):=oK (ahA g h0 h1) K
def XV {g g':Int→Int} (h:∀v:Int,0≤v→v<N→g v=g' v):TZ N g=TZ N g':=by
 unfold TZ;refine List.map_congr_left fun v hv=>?_;have:=List.mem_range.1 hv;exact h v (by omega) (by omega)
def sK {f f':Int→Int→Int} (h:∀u v:Int,0≤u→u<N→0≤v→v<N→f u v=f' u v):B7 N f=B7 N f':=by
 unfold B7;refine List.map_congr_left fun u hu=>?_;have:=List.mem_range.1 hu;exact XV fun v h0 h1=>h u v (by omega) (by omega) h0 h1
def akV {α:Type} (F:Nat→α) (N i:Nat) (x:α):((List.range N).map F).set i x=(List.range N).map fun j=>if j=i then x else F j:=by
 refine List.ext_getElem? fun j=>?_;rw[fW,fU,fU];rcases dz j N with hj|hj
 ·rw[fj hj]
  by_cases h:i=j
  ·subst h;rw[if_pos rfl,if_pos (by simpa using hj)];simp
  ·rw[if_neg h];simp[Ne.symm h]
 ·rw[fP (l:=List.range N) (by simpa using hj)]
  by_cases h:i=j
  ·subst h;rw[if_pos rfl,if_neg (by simp; omega)];rfl
  ·rw[if_neg h];rfl
def afk (g:Int→Int) {v:Int} (h0:0≤v) (x:Int):(TZ N g).set v.toNat x=TZ N fun b=>if b=v then x else g b:=by
 unfold TZ;rw[akV];refine List.map_congr_left fun j _=>?_
 by_cases h:j=v.toNat
 ·rw[if_pos h]; exact(if_pos (by omega)).symm
 ·rw[if_neg h]; exact(if_neg (by omega)).symm
def akU (f:Int→Int→Int) {u v:Int} (h0:0≤u) (h1:0≤v) (x:Int):(B7 N f).set u.toNat ((TZ N (f u)).set v.toNat x)=B7 N fun a b=>if a=u∧b=v then x else f a b:=by
 rw[afk _ h1];unfold B7;rw[akV];refine List.map_congr_left fun j _=>?_
 by_cases h:j=u.toNat
 ·have hj:(j:Int)=u:=by omega
  rw[if_pos h,hj];congr 1;funext b
  by_cases hb:b=v<;>simp[hb]
 ·rw[if_neg h];congr 1;funext b;exact(if_neg (by omega)).symm
end
inductive WI (L:List Lk) (k u:Int):Int→Int→Prop
 |nil:WI L k u u 0
 |one {v m:Int}:(u,v,m)∈L→WI L k u v m
 |step {w v d m:Int}:WI L k u w d→0≤w→w<k→(w,v,m)∈L→WI L k u v (d+m)
section
variable {L:List Lk} {N:Nat} {k u:Int}
def WI.mono {k':Int} (hk:k≤k') {v d:Int} (h:WI L k u v d):WI L k' u v d:=by
 induction h with
 |nil=>exact .nil
 |one h=>exact .one h
 |step _ h0 h1 h2 ih=>exact ih.step h0 (by omega) h2
def WI.app {w v d e:Int} (h1:WI L k u w d) (h2:WI L k w v e) (h0:0≤w) (hk:w<k):WI L k u v (d+e):=by
 induction h2 with
 |nil=>rw[f0]; exact h1
 |one h=>exact h1.step h0 hk h
 | @step x v e m _ g0 g1 g2 ih =>
  have:=ih.step g0 g1 g2;rw[Int.add_assoc] at this;exact this
def WI.wl {v d:Int} (h:WI L k u v d):∃vs,Wl L (fun x=>x=u) vs v d:=by
 induction h with
 |nil=>exact⟨[],.nil rfl⟩
 | @one v m h =>
  have:=Wl.step (Wl.nil (L:=L) (S:=fun x=>x=u) rfl) h;rw[gS] at this;exact⟨_,this⟩
 |step _ _ _ h2 ih =>
  obtain⟨vs,h⟩:=ih;exact⟨_,h.step h2⟩
def WI.of_wl (hL:InR L N) (hk:(N:Int)≤k) {vs:List Int} {v d:Int} (h:Wl L (fun x=>x=u) vs v d):WI L k u v d:=by
 induction h with
 |nil h =>
  obtain rfl:=h;exact .nil
 | @step vs w v m d _ h2 ih =>
  have:=(hL _ h2).1;exact ih.step this.1 (by dsimp only at this; omega) h2
def WI.of_wk (hL:InR L N) (hk:(N:Int)≤k) {n:Nat} {v d:Int} (h:Wk L v n u d):WI L k u v d:=by
 obtain⟨vs,_,h⟩:=h.wl;exact .of_wl hL hk h
def Wl.shorten {S:Int→Prop} {vs:List Int} {v d:Int} (h:Wl L S vs v d):∃vs' d',Wl L S vs' v d'∧(v::vs').Nodup:=by
 have h1:∀{vs:List Int} {v d:Int},Wl L S vs v d→Wl (L.map fun l=>(l.1,l.2.1,0)) S vs v 0:=fun h=>by
  induction h with
  |nil h=>exact .nil h
  | @step vs w v m d _ h2 ih =>
   have:=ih.step (v:=v) (m:=0) (dM.2 ⟨_,h2,rfl⟩);exact this
 have h2:∀{vs:List Int} {v d:Int},Wl (L.map fun l=>(l.1,l.2.1,0)) S vs v d→∃d',Wl L S vs v d':=fun h=>by
  induction h with
  |nil h=>exact⟨0,.nil h⟩
  | @step vs w v m d _ h2 ih =>
   obtain⟨d',h⟩:=ih;obtain⟨l,hl,e⟩:=dM.1 h2;obtain⟨a,b,c⟩:=l;simp only[Prod.mk.injEq] at e;obtain⟨rfl,rfl,rfl⟩:=e;exact⟨_,h.step hl⟩
 obtain⟨vs',d',g1,_,g3⟩:=(h1 h).simple (p:=fun _=>0) (fun a b m hm=>by
  obtain⟨l,_,e⟩:=List.mem_map.1 hm;simp only[Prod.mk.injEq] at e;dsimp only
  omega)
 obtain⟨d'',g4⟩:=h2 g1;exact⟨vs',d'',g4,g3⟩
def ai9 (L:List Lk) (k u v:Int):List Lk:=L.filter fun l=>(l.1==u||(decide (0≤l.1)&&decide (l.1<k)))&&(l.2.1==v||(decide (0≤l.2.1)&&decide (l.2.1<k)))
def tF {v:Int} {l:Lk}:l∈ai9 L k u v↔l∈L∧(l.1=u∨(0≤l.1∧l.1<k))∧(l.2.1=v∨(0≤l.2.1∧l.2.1<k)):=by
 unfold ai9;rw[List.mem_filter];simp
def WI.rest (v:Int) {w d:Int} (h:WI L k u w d):(w=v∨(0≤w∧w<k))→∃vs,Wl (ai9 L k u v) (fun x=>x=u) vs w d:=by
 induction h with
 |nil=>exact fun _=>⟨[],.nil rfl⟩
 | @one w m h =>
  intro hw;have:=Wl.step (Wl.nil (L:=ai9 L k u v) (S:=fun x=>x=u) rfl) (tF.2 ⟨h,.inl rfl,hw⟩);rw[gS] at this;exact⟨_,this⟩
 | @step x w d m _ h0 h1 h2 ih =>
  intro hw;obtain⟨vs,h⟩:=ih (.inr ⟨h0,h1⟩);exact⟨_,h.step (tF.2 ⟨h2,.inr ⟨h0,h1⟩,hw⟩)⟩
def WI.of_rest {v:Int} {vs:List Int} {w d:Int} (h:Wl (ai9 L k u v) (fun x=>x=u) vs w d):v∉vs→WI L k u w d:=by
 induction h with
 |nil h =>
  obtain rfl:=h;exact fun _=>.nil
 | @step vs x w m d h1 h2 ih =>
  intro hv;obtain⟨g1,g2,g3⟩:=tF.1 h2;have ih':=ih fun h=>hv (by simp[h]);have hxv:x≠v:=fun e=>hv (by simp[e])
  cases h1 with
  |nil h =>
   obtain rfl:=h;rw[gS];exact .one g1
  |step h3 h4 =>
   obtain⟨_,_,g4⟩:=tF.1 h4;rcases g4 with g4|g4
   ·exact absurd g4 hxv
   ·exact ih'.step g4.1 g4.2 g1
def WI.high (hS:Ħ L N) {v d:Int} (hu:0≤u∧u<N) (h:WI L k u v d):∃d',WI L k u v d'∧d'≤270215977642229760:=by
 have hn:=hS.n60;obtain⟨vs,hw⟩:=h.rest v (.inl rfl);obtain⟨vs',d',h1,h2⟩:=hw.shorten;have hin:InR (ai9 L k u v) N:=fun l hl=>hS.inr l (tF.1 hl).1;have hlen:=h1.short hin (fun w hw=>by rw[hw]; exact hu) h2;have hhi:=h1.high (M:=4503599627370496) fun l hl=>(hS.most l (tF.1 hl).1).2;refine⟨d',.of_rest h1 (fS.1 h2).1,?_⟩;omega
def ajx (L:List Lk) (k:Int):List Lk:=L.filter fun l=>decide (l.1<k)&&decide (l.2.1<k)
def aac {l:Lk}:l∈ajx L k↔l∈L∧l.1<k∧l.2.1<k:=by
 unfold ajx;rw[List.mem_filter];simp
def ah1 (hS:Ħ L N):Ħ (ajx L k) N:=hS.sub (fun l hl=>(aac.1 hl).1) (dO _ _)
def WI.of_low (hS:Ħ L N) {v d:Int} {n:Nat} (h:Wk (ajx L k) v n u d):WI L k u v d:=by
 obtain⟨vs,_,hw⟩:=h.wl;clear h;rename_i hlen;clear hlen
 induction hw with
 |nil h =>
  obtain rfl:=h;exact .nil
 | @step vs w v m d _ h2 ih =>
  obtain⟨g1,g2,g3⟩:=aac.1 h2;have:=(hS.inr _ g1).1;exact ih.step this.1 g2 g1
def aoI (hS:Ħ L N) (hc:∀v d:Int,0≤v→v<N→WI L k v v d→0≤d):ħ (ajx L k) N=true:=by
 cases ho:ħ (ajx L k) N with
 |true=>rfl
 |false =>
  obtain⟨n,v,d,_,_,h3,h4,h5⟩:=WB (ah1 hS) ho;have:=hc v d h3.1 h3.2 (.of_low hS h4);omega
def WI.low (hS:Ħ L N) (hc:∀v d:Int,0≤v→v<N→WI L k v v d→0≤d) {v d:Int} (h:WI L k u v d) : -2314850208468434944≤d:=by
 have hn:=hS.n60;have ho:=aoI hS hc;have hs:=ah1 (k:=k) hS;have hbd:=XQ hs.links (by omega) ho;obtain⟨hp,_⟩:=aol hs ho
 let p:Int→Int:=fun v=>if 0≤v∧v<N then gv (į (ajx L k) N) v else 0
 have hlen:(į (ajx L k) N).length=N:=by unfold į; rw[ĸ,ÿ]
 have hpb:∀v,-2305843009213693952≤p v∧p v≤0:=fun v=>by
  show -2305843009213693952≤(if 0≤v∧v<N then gv (į (ajx L k) N) v else 0)∧(if 0≤v∧v<N then gv (į (ajx L k) N) v else 0)≤0
  split
  ·rename_i hv;exact hbd _ (cZ (Xh (by omega)))
  ·omega
 have hpp:∀a b m,(a,b,m)∈ajx L k→p b≤p a+m:=fun a b m hl=>by
  have hr:=hs.inr _ hl;dsimp only at hr;have:=hp a b m hl;rw[Ps hr.1.1 hr.1.2,Ps hr.2.1 hr.2.2] at this;show(if 0≤b∧b<N then gv (į (ajx L k) N) b else 0)≤(if 0≤a∧a<N then gv (į (ajx L k) N) a else 0)+m;rw[if_pos hr.1,if_pos hr.2];omega
 have key:∀{v d:Int},WI L k u v d→(v<k→p v-4503599627370496≤d)∧-2314850208468434944≤d:=fun {v d} h=>by
  induction h with
  |nil=>have:=hpb u; exact⟨fun _=>by omega,by omega⟩
  | @one v m h =>
   have:=hpb v;have:=(hS.most _ h).1;dsimp only at this;exact⟨fun _=>by omega,by omega⟩
  | @step w v d m _ h0 h1 h2 ih =>
   have hm:=(hS.most _ h2).1;dsimp only at hm;have hi:=ih.1 h1;have hw:=hpb w;refine⟨fun hv=>?_,by omega⟩;have:=hpp w v m (aac.2 ⟨h2,h1,hv⟩);omega
 exact(key h).2
def lkF (f:Int→Int→Int) (l:Lk):Int→Int→Int:=fun a b=>if a=l.1∧b=l.2.1 then min (f l.1 l.2.1) l.2.2 else f a b
def agC (a b:Int):Int:=if a=b then 0 else Ģ
def upF (f:Int→Int→Int) (k:Int):Int→Int→Int:=fun a b=>if f a k=Ģ then f a b else if f k b=Ģ then f a b else min (f a b) (f a k+f k b)
def fw (L:List Lk):Nat→Int→Int→Int
 |0=>L.foldl lkF agC
 |k+1=>upF (fw L k) k
def Xn (a b:Int):∀(M:List Lk) (f:Int→Int→Int),(M.foldl lkF f) a b≤f a b∧(∀m,(a,b,m)∈M→(M.foldl lkF f) a b≤m)∧((M.foldl lkF f) a b=f a b∨∃m,(a,b,m)∈M∧(M.foldl lkF f) a b=m)
 |[],f=>⟨dE _,fun _ h=>by simp at h,.inl rfl⟩
 |l::M,f=>by
  rw[fQ];obtain⟨i1,i2,i3⟩:=Xn a b M (lkF f l)
  have key:lkF f l a b≤f a b∧((a=l.1∧b=l.2.1)→lkF f l a b≤l.2.2)∧(lkF f l a b=f a b∨((a=l.1∧b=l.2.1)∧lkF f l a b=l.2.2)):=by
   unfold lkF
   by_cases h:a=l.1∧b=l.2.1
   ·rw[if_pos h,h.1,h.2];refine⟨by omega,fun _=>by omega,?_⟩
    by_cases hc:f l.1 l.2.1≤l.2.2
    ·exact .inl (by omega)
    ·exact .inr ⟨⟨rfl,rfl⟩,by omega⟩
   ·rw[if_neg h];exact⟨dE _,fun h'=>absurd h' h,.inl rfl⟩
  obtain⟨k1,k2,k3⟩:=key;refine⟨by omega,fun m hm=>?_,?_⟩
  ·rcases df.1 hm with h|h
   ·subst h;have:=k2 ⟨rfl,rfl⟩;dsimp only at this;omega
   ·exact i2 m h
  ·rcases i3 with h|⟨m,h,e⟩
   ·rcases k3 with h'|⟨⟨h1,h2⟩,h'⟩
    ·exact .inl (h.trans h')
    ·exact .inr ⟨l.2.2,by rw[h1,h2]; simp,h.trans h'⟩
   ·exact .inr ⟨m,by simp[h],e⟩
structure Tab (L:List Lk) (N:Nat) (k:Nat) (f:Int→Int→Int):Prop where
 att:∀a b:Int,0≤a→a<N→0≤b→b<N→f a b≠Ģ→WI L k a b (f a b)
 le:∀a b s:Int,0≤a→a<N→0≤b→b<N→WI L k a b s→f a b≤s∧f a b≠Ģ
 diag:∀a:Int,0≤a→a<N→f a a=0
def Tab.closed {f:Int→Int→Int} {k:Nat} (h:Tab L N k f):∀v d:Int,0≤v→v<N→WI L k v v d→0≤d:=fun v d h0 h1 hw=>by
 have:=(h.le v v d h0 h1 h0 h1 hw).1;rw[h.diag v h0 h1] at this;exact this
def Tab.bd (hS:Ħ L N) {f:Int→Int→Int} {k:Nat} (h:Tab L N k f) {a b:Int} (ha:0≤a∧a<N) (hb:0≤b∧b<N) (hf:f a b≠Ģ) : -2314850208468434944≤f a b∧f a b≤270215977642229760:=by
 have hw:=h.att a b ha.1 ha.2 hb.1 hb.2 hf;obtain⟨d,hd,hle⟩:=hw.high hS ha;have:=(h.le a b d ha.1 ha.2 hb.1 hb.2 hd).1;exact⟨hw.low hS h.closed,by omega⟩
def aob (hS:Ħ L N):Tab L N 0 (fw L 0):=by
 have key:∀a b,(fw L 0 a b≤agC a b)∧(∀m,(a,b,m)∈L→fw L 0 a b≤m)∧(fw L 0 a b=agC a b∨∃m,(a,b,m)∈L∧fw L 0 a b=m):=fun a b=>Xn a b L agC;refine⟨fun a b ha ha' hb hb' hf=>?_,fun a b s ha ha' hb hb' hw=>?_,fun a ha ha'=>?_⟩
 ·rcases(key a b).2.2 with h|⟨m,h,e⟩
  ·rw[h] at hf ⊢;unfold agC at hf ⊢
   by_cases hab:a=b
   ·subst hab; rw[if_pos rfl]; exact .nil
   ·rw[if_neg hab] at hf; exact absurd rfl hf
  ·rw[e]; exact .one h
 ·have hs:fw L 0 a b≤s∧s≤4503599627370496:=by
   cases hw with
   |nil =>
    have:=(key a a).1;unfold agC at this;rw[if_pos rfl] at this;omega
   |one h=>exact⟨(key a b).2.1 _ h,(hS.most _ h).2⟩
   |step _ h0 h1 _=>omega
  refine⟨hs.1,fun hF=>?_⟩;rw[hF] at hs;unfold Ģ at hs;omega
 ·rcases(key a a).2.2 with h|⟨m,h,e⟩
  ·rw[h]; unfold agC; rw[if_pos rfl]
  ·exact absurd rfl (hS.noloop _ h)
def ahq (hS:Ħ L N) {k:Nat} (hk:k<N) {f:Int→Int→Int} (h:Tab L N k f) :
 (∀a b:Int,0≤a→a<N→0≤b→b<N→upF f k a b≠Ģ→WI L ((k+1:Nat):Int) a b (upF f k a b)) ∧
 (∀a b s:Int,0≤a→a<N→0≤b→b<N→WI L ((k+1:Nat):Int) a b s→upF f k a b≤s∧upF f k a b≠Ģ) ∧
 (∀a:Int,0≤a→a<N→upF f k a a≤0):=by
 have hk0:(0:Int)≤k∧(k:Int)<N:=by omega
 -- the element that a pass gives
 have cases3:∀a b:Int,upF f k a b=f a b∨(f a k≠Ģ∧f k b≠Ģ∧upF f k a b=f a k+f k b):=fun a b=>by
  unfold upF
  by_cases h1:f a k=Ģ
  ·rw[if_pos h1]; exact .inl rfl
  rw[if_neg h1]
  by_cases h2:f k b=Ģ
  ·rw[if_pos h2]; exact .inl rfl
  rw[if_neg h2]
  by_cases h3:f a b≤f a k+f k b
  ·exact .inl (by omega)
  ·exact .inr ⟨h1,h2,by omega⟩
 have lim:∀a b:Int,0≤a→a<N→0≤b→b<N→f a b≤Ģ:=fun a b h0 h1 h2 h3=>by
  by_cases hf:f a b=Ģ
  ·omega
  ·have:=h.bd hS ⟨h0,h1⟩ ⟨h2,h3⟩ hf; unfold Ģ; omega
 have upper:∀a b:Int,upF f k a b≤f a b∧(f a k≠Ģ→f k b≠Ģ→upF f k a b≤f a k+f k b):=fun a b=>by
  unfold upF
  by_cases h1:f a k=Ģ
  ·rw[if_pos h1]; exact⟨dE _,fun h'=>absurd h1 h'⟩
  rw[if_neg h1]
  by_cases h2:f k b=Ģ
  ·rw[if_pos h2]; exact⟨dE _,fun _ h'=>absurd h2 h'⟩
  rw[if_neg h2];exact⟨by omega,fun _ _=>by omega⟩
 have B:=fun(a b:Int) (h0:0≤a) (h1:a<N) (h2:0≤b) (h3:b<N) (hf:f a b≠Ģ)=>h.bd hS ⟨h0,h1⟩ ⟨h2,h3⟩ hf
 -- if there is a walk, the element is told
 have ne:∀a b:Int,0≤a→a<N→0≤b→b<N→(f a b≠Ģ∨(f a k≠Ģ∧f k b≠Ģ))→upF f k a b≠Ģ:=fun a b h0 h1 h2 h3 hc hF=>by
  have hu:=upper a b;rcases hc with hc|⟨hc1,hc2⟩
  ·have:=B a b h0 h1 h2 h3 hc;rw[hF] at hu;unfold Ģ at hu;omega
  ·have b1:=B a k h0 h1 hk0.1 hk0.2 hc1;have b2:=B k b hk0.1 hk0.2 h2 h3 hc2;have:=hu.2 hc1 hc2;rw[hF] at this;unfold Ģ at this;omega
 have colk:∀a:Int,0≤a→a<N→upF f k a k=f a k:=fun a h0 h1=>by
  have hd:=h.diag k hk0.1 hk0.2;unfold upF;rw[hd]
  split
  ·rfl
  ·rw[if_neg (by decide)]; omega
 refine⟨fun a b h0 h1 h2 h3 hf=>?_,fun a b s h0 h1 h2 h3 hw=>?_,fun a h0 h1=>?_⟩
 ·rcases cases3 a b with e|⟨e1,e2,e⟩
  ·rw[e] at hf ⊢;exact(h.att a b h0 h1 h2 h3 hf).mono (by omega)
  ·rw[e];exact((h.att a k h0 h1 hk0.1 hk0.2 e1).mono (by omega)).app ((h.att k b hk0.1 hk0.2 h2 h3 e2).mono (by omega)) hk0.1 (by omega)
 ·-- by the walk
  have main:∀{v s:Int},WI L ((k+1:Nat):Int) a v s→(0≤v∧v<N)→upF f k a v≤s∧(f a v≠Ģ∨(f a k≠Ģ∧f k v≠Ģ)):=fun {v s} hw=>by
   induction hw with
   |nil =>
    intro hv;have:=h.le a a 0 hv.1 hv.2 hv.1 hv.2 .nil;exact⟨by have:=(upper a a).1; omega,.inl this.2⟩
   | @one v m hl =>
    intro hv;have:=h.le a v m h0 h1 hv.1 hv.2 (.one hl);exact⟨by have:=(upper a v).1; omega,.inl this.2⟩
   | @step w v d m _ g0 g1 g2 ih =>
    intro hv;have hwr:=(hS.inr _ g2).1;dsimp only at hwr;obtain⟨i1,i2⟩:=ih hwr;have hone:=h.le w v m hwr.1 hwr.2 hv.1 hv.2 (.one g2)
    by_cases hwk:w=k
    ·subst hwk;rw[colk a h0 h1] at i1
     have hak:f a k≠Ģ:=by
      rcases i2 with i2|i2
      ·exact i2
      ·exact i2.1
     have:=(upper a v).2 hak hone.2;exact⟨by omega,.inr ⟨hak,hone.2⟩⟩
    ·have hlt:w<k:=by push_cast at g1; omega
     -- one link î of a walk by nodes below k
     have ext:∀x:Int,0≤x→x<N→f x w≠Ģ→f x v≤f x w+m∧f x v≠Ģ:=fun x hx0 hx1 hf =>
      h.le x v _ hx0 hx1 hv.1 hv.2 ((h.att x w hx0 hx1 hwr.1 hwr.2 hf).step hwr.1 hlt g2)
     rcases cases3 a w with e|⟨e1,e2,e⟩
     ·have hne:f a w≠Ģ:=by
       rcases i2 with i2|⟨i2,i3⟩
       ·exact i2
       ·intro hF;rw[hF] at e;exact ne a w h0 h1 hwr.1 hwr.2 (.inr ⟨i2,i3⟩) e
      have:=ext a h0 h1 hne;exact⟨by have:=(upper a v).1; omega,.inl this.2⟩
     ·have:=ext k hk0.1 hk0.2 e2;have:=(upper a v).2 e1 this.2;exact⟨by omega,.inr ⟨e1,(ext k hk0.1 hk0.2 e2).2⟩⟩
  obtain⟨m1,m2⟩:=main hw ⟨h2,h3⟩;exact⟨m1,ne a b h0 h1 h2 h3 m2⟩
 ·have:=(upper a a).1;have:=h.diag a h0 h1;omega
def wi_pot {p:Int→Int} (hp:Pot L p) {v d:Int} (h:WI L k u v d):p v≤p u+d:=by
 induction h with
 |nil=>omega
 |one h=>exact hp _ _ _ h
 |step _ _ _ h2 ih=>have:=hp _ _ _ h2; omega
def fw_all (hS:Ħ L N):(∃k:Nat,k<N∧Tab L N k (fw L k)∧(∃a:Int,0≤a∧a<N∧fw L (k+1) a a<0)∧∀j,j≤k→Tab L N j (fw L j))∨∀k:Nat,k≤N→Tab L N k (fw L k):=by
 have:∀k:Nat,k≤N→(∃j:Nat,j<k∧Tab L N j (fw L j)∧(∃a:Int,0≤a∧a<N∧fw L (j+1) a a<0)∧∀i,i≤j→Tab L N i (fw L i))∨∀i,i≤k→Tab L N i (fw L i):=by
  intro k
  induction k with
  |zero=>exact fun _=>.inr fun i hi=>by have h0:i=0:=(by omega); subst h0; exact aob hS
  |succ k ih =>
   intro hk;rcases ih (by omega) with⟨j,h1,h2⟩|h
   ·exact .inl ⟨j,by omega,h2⟩
   ·have hT:=h k (cR _);obtain⟨s1,s2,s3⟩:=ahq hS (by omega) hT
    by_cases hb:∃a:Int,0≤a∧a<N∧fw L (k+1) a a<0
    ·exact .inl ⟨k,by omega,hT,hb,h⟩
    ·refine .inr fun i hi=>?_;rcases Nat.lt_or_eq_of_le hi with hi|rfl
     ·exact h i (by omega)
     ·refine⟨s1,s2,fun a h0 h1=>?_⟩;have:=s3 a h0 h1;rcases gG (fw L (k+1) a a) 0 with q|q
      ·exact absurd ⟨a,h0,h1,q⟩ hb
      ·have e:fw L (k+1) a a=upF (fw L k) k a a:=rfl;omega
 rcases this N (cR _) with⟨j,h1,h2⟩|h
 ·exact .inl ⟨j,h1,h2⟩
 ·exact .inr h
def aoX (hS:Ħ L N) {j:Nat} (hj:j<N) (hT:Tab L N j (fw L j)) (hb:∃a:Int,0≤a∧a<N∧fw L (j+1) a a<0):ħ L N=false:=by
 have hn:=hS.n60;obtain⟨a,h0,h1,h2⟩:=hb;rw[Bool.eq_false_iff];intro ho;obtain⟨p,hp⟩:=(Ļ hS.links (by omega)).1 ho;obtain⟨s1,_,_⟩:=ahq hS hj hT;have e:fw L (j+1) a a=upF (fw L j) j a a:=rfl;rw[e] at h2;have:=wi_pot hp (s1 a a h0 h1 h0 h1 (by unfold Ģ; omega));omega
def al8 (hS:Ħ L N) (hT:Tab L N N (fw L N)):ħ L N=true:=by
 cases ho:ħ L N with
 |true=>rfl
 |false =>
  obtain⟨n,v,d,_,_,h3,h4,h5⟩:=WB hS ho;have:=hT.closed v d h3.1 h3.2 (.of_wk hS.inr (dE _) h4);omega
def fw_dst (hS:Ħ L N) (ht:ya L N) (hT:Tab L N N (fw L N)) {a b:Int} (ha:0≤a∧a<N) (hb:0≤b∧b<N):fw L N a b=dst L N a b:=by
 have ho:=al8 hS hT;obtain⟨vs,hw⟩:=aip hS ht ho ha hb;obtain⟨h1,h2⟩:=hT.le a b _ ha.1 ha.2 hb.1 hb.2 (.of_wl hS.inr (dE _) hw);obtain⟨vs',hw'⟩:=(hT.att a b ha.1 ha.2 hb.1 hb.2 h2).wl;have:=agF hS ho ha hw';omega
end
section
variable {ρ:Type} {L:List Lk} {N:Nat}
def an9 (hN:N≤60) {u:Int} (hu:0≤u∧u<N) (K:List Int→Option ρ) :
 Ñ (fun(v7:Int×List Int) kk10=>lL (N:Int) u v7.1 v7.2 (fun u8 u9=>kk10 (u8,u9)) K) ((0:Int),List.replicate N (0:Int))=K (TZ N (agC u)):=by
 refine ò (List.replicate N ()) (fun i=>TZ N fun b=>if b<i then agC u b else 0) _ ?_ (fun i a hi ha kn=>?_) (fun kn=>?_)
 ·unfold TZ;refine List.ext_getElem? fun j=>?_;rw[List.getElem?_map,List.getElem?_replicate]
  by_cases hj:j<N
  ·rw[fj hj,if_pos hj];simp only[dW];rw[if_neg (by omega)]
  ·rw[fP (by simpa using hj),if_neg hj];rfl
 ·try dsimp only
  unfold lL;rw[List.length_replicate] at hi;have e0:Ģ=(1152921504606846976:Int):=rfl;rw[Ô (decide_eq_true (by omega)),oJ,ĵ (by omega) (by omega),mZ _ (by omega) (by omega),afk _ (by omega)]
  by_cases h:u=(i:Int)
  ·rw[Ô (beq_iff_eq.2 h),oJ,ĵ (by omega) (by omega),mZ _ (by omega) (by omega),Õ (by omega) (by omega),afk _ (by omega)];congr 1;refine XV fun v h0 h1=>?_
   by_cases hv:v=(i:Int)
   ·rw[if_pos hv,if_pos (by push_cast; omega)]; unfold agC; rw[if_pos (by omega)]
   ·rw[if_neg hv,if_neg hv]
    by_cases h2:v<(i:Int)
    ·rw[if_pos h2,if_pos (by push_cast; omega)]
    ·rw[if_neg h2,if_neg (by push_cast; omega)]
  ·rw[Ò (beq_eq_false_iff_ne.2 h),Õ (by omega) (by omega)];congr 1;refine XV fun v h0 h1=>?_
   by_cases hv:v=(i:Int)
   ·rw[if_pos hv,if_pos (by push_cast; omega)]; unfold agC; rw[if_neg (by omega),e0]
   ·rw[if_neg hv]
    by_cases h2:v<(i:Int)
    ·rw[if_pos h2,if_pos (by push_cast; omega)]
    ·rw[if_neg h2,if_neg (by push_cast; omega)]
 ·try dsimp only
  unfold lL;rw[List.length_replicate,Ò (decide_eq_false (by omega))];congr 1;exact XV fun v h0 h1=>if_pos h1
def aoa (hN:N≤60) (K:List (List Int)→Option ρ) :
 Ñ (fun(v74:Int×List (List Int)) kk77=>lM (N:Int) v74.1 v74.2 (fun u75 u76=>kk77 (u75,u76)) K) ((0:Int),[])=K (B7 N agC):=by
 refine ò (List.replicate N ()) (fun i=>(List.range i).map fun(u:Nat)=>TZ N (agC u)) _ rfl (fun i a hi ha kn=>?_) (fun kn=>?_)
 ·try dsimp only
  unfold lM;rw[List.length_replicate] at hi;rw[Ô (decide_eq_true (by omega)),Ĭ (by simp[ë]; omega),Int.toNat_natCast];refine(an9 hN ⟨by omega,by omega⟩ _).trans ?_;rw[Ĭ (Ø (by simp only[List.length_map,List.length_range,List.length_singleton]; omega)),Õ (by omega) (by omega)];congr 2;rw[List.range_succ,List.map_append];rfl
 ·try dsimp only
  unfold lM;rw[List.length_replicate,Ò (decide_eq_false (by omega))];rfl
def an8 (hS:Ħ L N) (K:List (List Int)→Option ρ) :
 Ñ (fun(v70:Int×List (List Int)) kk73=>lK L v70.1 v70.2 (fun u71 u72=>kk73 (u71,u72)) K) ((0:Int),B7 N agC)=K (B7 N (fw L 0)):=by
 have hl3:=hS.len;refine ò L (fun i=>B7 N ((L.take i).foldl lkF agC)) _ rfl (fun i l hi hl kn=>?_) (fun kn=>?_)
 ·try dsimp only
  unfold lK;have hr:=hS.inr l (List.mem_of_getElem? hl);obtain⟨⟨a0,a1⟩,b0,b1⟩:=hr;rw[Ó hi,É hl];simp only[vC,ĵ a0 a1,qV _ a0 a1,oJ,ĵ b0 b1,mZ _ b0 b1];rw[Ì hi (by omega),akU _ a0 b0,take_succ hl,List.foldl_append];congr 2;refine sK fun u v _ _ _ _=>?_;simp only[List.foldl_cons,List.foldl_nil,lkF,Ap]
 ·try dsimp only
  unfold lK;rw[Ü,List.take_length];rfl
def an7 (hS:Ħ L N) {k:Nat} (hk:k<N) {f:Int→Int→Int} (hT:Tab L N k f) {u:Int} (hu:0≤u∧u<N) (hne:f u k≠Ģ) {g:Int→Int→Int} (hgk:∀b:Int,0≤b→b<N→g k b=f k b) (hgu:∀b:Int,0≤b→b<N→g u b=f u b) (K:List (List Int)→Option ρ) :
 Ñ (fun(v45:Int×List (List Int)) kk48=>lI (k:Int) u (N:Int) v45.1 v45.2 (fun u46 u47=>kk48 (u46,u47)) K) ((0:Int),B7 N g)=K (B7 N fun a b=>if a=u then upF f k a b else g a b):=by
 have hn:=hS.n60
 have hk0:(0:Int)≤k∧(k:Int)<N:=by omega
 have hdk:=hT.diag k hk0.1 hk0.2;have e0:Ģ=(1152921504606846976:Int):=rfl
 have rowk:∀b:Int,upF f k k b=f k b:=fun b=>by
  unfold upF;rw[hdk];rw[if_neg (by decide)]
  split
  ·rfl
  ·omega
 have colk:upF f k u k=f u k:=by
  unfold upF;rw[if_neg hne,hdk,if_neg (by decide)];omega
 refine ò (List.replicate N ()) (fun i=>B7 N fun a b=>if a=u∧b<i then upF f k a b else g a b) _ ?_ (fun i a hi ha kn=>?_) (fun kn=>?_)
 ·exact sK fun a b _ _ hb _=>if_neg (by omega)
 ·try dsimp only
  unfold lI;rw[List.length_replicate] at hi
  have hi0:(0:Int)≤i∧(i:Int)<N:=by omega
  -- what lies in row k, and in row u at k
  have r1:(if (k:Int)=u∧(i:Int)<i then upF f k k i else g k i)=f k i:=by rw[if_neg (by omega)]; exact hgk i hi0.1 hi0.2
  have r2:(if u=u∧(i:Int)<i then upF f k u i else g u i)=f u i:=by rw[if_neg (by omega)]; exact hgu i hi0.1 hi0.2
  have r3:(if u=u∧(k:Int)<i then upF f k u k else g u k)=f u k:=by
   split
   ·exact colk
   ·exact hgu k hk0.1 hk0.2
  have step:∀x:Int,(fun(a b:Int)=>if a=u∧b=(i:Int) then x else if a=u∧b<(i:Int) then upF f k a b else g a b)=fun a b=>if a=u∧b<((i+1:Nat):Int) then(if b=(i:Int) then x else upF f k a b) else g a b:=fun x=>by
   funext a b
   by_cases h1:a=u
   ·by_cases h2:b=(i:Int)
    ·rw[if_pos ⟨h1,h2⟩,if_pos ⟨h1,by push_cast; omega⟩,if_pos h2]
    ·by_cases h3:b<(i:Int)
     ·rw[if_neg (fun h=>h2 h.2),if_pos ⟨h1,h3⟩,if_pos ⟨h1,by push_cast; omega⟩,if_neg h2]
     ·rw[if_neg (fun h=>h2 h.2),if_neg (fun h=>h3 h.2),if_neg (fun h=>by have:=h.2; push_cast at this; omega)]
   ·rw[if_neg (fun h=>h1 h.1),if_neg (fun h=>h1 h.1),if_neg (fun h=>h1 h.1)]
  rw[Ô (decide_eq_true hi0.2)];simp only[-eq_self,vC,ĵ hk0.1 hk0.2,qV _ hk0.1 hk0.2,oJ,ĵ hi0.1 hi0.2,mZ _ hi0.1 hi0.2,r1]
  by_cases h2:f k i=Ģ
  ·rw[Ò (by rw[h2]; rfl),Õ (by omega) (by omega)];congr 2;refine sK fun a b ha _ hb _=>?_
   by_cases h3:a=u∧b<(i:Int)
   ·rw[if_pos h3,if_pos ⟨h3.1,by push_cast; omega⟩]
   ·rw[if_neg h3]
    by_cases h4:a=u∧b=(i:Int)
    ·rw[if_pos ⟨h4.1,by push_cast; omega⟩,h4.1,h4.2];unfold upF;rw[if_neg hne,if_pos h2];exact hgu i hi0.1 hi0.2
    ·rw[if_neg (fun h=>by have:=h.2; push_cast at this; omega)]
  ·have b1:=hT.bd hS hu hk0 hne;have b2:=hT.bd hS hk0 hi0 h2;rw[Ô (bne_iff_ne.2 h2)];simp only[-eq_self,vC,ĵ hu.1 hu.2,qV _ hu.1 hu.2,oJ,ĵ hi0.1 hi0.2,mZ _ hi0.1 hi0.2,ĵ hk0.1 hk0.2,mZ _ hk0.1 hk0.2,qV _ hk0.1 hk0.2,r1,r2,r3];rw[Õ (by omega) (by omega)]
   try simp only[-eq_self,vC,ĵ hu.1 hu.2,qV _ hu.1 hu.2,oJ,ĵ hi0.1 hi0.2,mZ _ hi0.1 hi0.2]
   rw[Õ (by omega) (by omega),akU _ hu.1 hi0.1,step];congr 2;refine sK fun a b ha _ hb _=>?_
   by_cases h3:a=u∧b<((i+1:Nat):Int)
   ·rw[if_pos h3,if_pos h3]
    by_cases h4:b=(i:Int)
    ·rw[if_pos h4,h3.1,h4,Ap];unfold upF;rw[if_neg hne,if_neg h2]
    ·rw[if_neg h4]
   ·rw[if_neg h3,if_neg h3]
 ·try dsimp only
  unfold lI;rw[List.length_replicate,Ò (decide_eq_false (by omega))];congr 1;refine sK fun a b _ _ _ hb=>?_
  by_cases h:a=u
  ·rw[if_pos ⟨h,hb⟩,if_pos h]
  ·rw[if_neg (fun q=>h q.1),if_neg h]
def ahp (hS:Ħ L N) {k:Nat} (hk:k<N) {f:Int→Int→Int} (hT:Tab L N k f) (K:List (List Int)→Option ρ) :
 Ñ (fun(v60:Int×List (List Int)) kk63=>lJ (k:Int) (N:Int) v60.1 v60.2 (fun u61 u62=>kk63 (u61,u62)) K) ((0:Int),B7 N f)=K (B7 N (upF f k)):=by
 have hn:=hS.n60
 have hk0:(0:Int)≤k∧(k:Int)<N:=by omega
 have hdk:=hT.diag k hk0.1 hk0.2
 have rowk:∀b:Int,upF f k k b=f k b:=fun b=>by
  unfold upF;rw[hdk];rw[if_neg (by decide)]
  split
  ·rfl
  ·omega
 refine ò (List.replicate N ()) (fun i=>B7 N fun a b=>if a<i then upF f k a b else f a b) _ ?_ (fun i a hi ha kn=>?_) (fun kn=>?_)
 ·exact sK fun a b ha _ _ _=>if_neg (by omega)
 ·try dsimp only
  unfold lJ;rw[List.length_replicate] at hi
  have hi0:(0:Int)≤i∧(i:Int)<N:=by omega
  have r1:(if (i:Int)<i then upF f k i k else f i k)=f i k:=if_neg (by omega);rw[Ô (decide_eq_true hi0.2)];simp only[vC,ĵ hi0.1 hi0.2,qV _ hi0.1 hi0.2,oJ,ĵ hk0.1 hk0.2,mZ _ hk0.1 hk0.2,r1]
  by_cases h1:f i k=Ģ
  ·rw[Ô (beq_iff_eq.2 h1),Õ (by omega) (by omega)];congr 2;refine sK fun a b ha _ hb _=>?_
   by_cases h2:a<(i:Int)
   ·rw[if_pos h2,if_pos (by push_cast; omega)]
   ·rw[if_neg h2]
    by_cases h3:a=(i:Int)
    ·rw[if_pos (by push_cast; omega),h3];unfold upF;rw[if_pos h1]
    ·rw[if_neg (by push_cast; omega)]
  ·rw[Ò (beq_eq_false_iff_ne.2 h1)];refine(an7 hS hk hT hi0 h1 (fun b _ _=>?_) (fun b _ _=>if_neg (by omega)) _).trans ?_
   ·split
    ·exact rowk b
    ·rfl
   ·rw[Õ (by omega) (by omega)];congr 2;refine sK fun a b ha _ hb _=>?_
    by_cases h3:a=(i:Int)
    ·rw[if_pos h3,if_pos (by push_cast; omega)]
    ·rw[if_neg h3]
     by_cases h2:a<(i:Int)
     ·rw[if_pos h2,if_pos (by push_cast; omega)]
     ·rw[if_neg h2,if_neg (by push_cast; omega)]
 ·try dsimp only
  unfold lJ;rw[List.length_replicate,Ò (decide_eq_false (by omega))];congr 1;exact sK fun a b _ ha _ _=>if_pos ha
def an6 (hN:N≤60) (f:Int→Int→Int) (X Y:Option ρ) :
 Ñ (fun(v57:Int) kk59=>iH (N:Int) (B7 N f) v57 (fun u58=>kk59 u58) (fun _=>X) (fun _=>Y)) (0:Int)=if ((List.range N).any fun(a:Nat)=>decide (f a a<0)) then X else Y:=by
 refine ī (List.range N) (fun a=>decide (f a a<0)) (fun _=>X) X Y (fun _=>rfl) (fun i a hi ha kn=>?_) (fun kn=>?_)
 ·try dsimp only
  unfold iH;rw[List.length_range] at hi
  have hia:a=i:=by rw[fj hi] at ha; exact(Option.some.inj ha).symm
  subst hia
  have hi0:(0:Int)≤a∧(a:Int)<N:=by omega
  rw[Ô (decide_eq_true hi0.2)];simp only[vC,ĵ hi0.1 hi0.2,qV _ hi0.1 hi0.2,oJ,mZ _ hi0.1 hi0.2];rw[Õ (by omega) (by omega),Ė]
 ·try dsimp only
  unfold iH;rw[List.length_range,Ò (decide_eq_false (by omega))]
def apM (hS:Ħ L N) (ht:ya L N):uZ ((N:Int),L)=some (if ħ L N then(B7 N (dst L N),true) else([],false)):=by
 have hn:=hS.n60;unfold uZ Km;dsimp only;refine(aoa hn _).trans ?_;refine(an8 hS _).trans ?_
 have anyOf:∀k:Nat,((List.range N).any fun(a:Nat)=>decide (fw L k a a<0))=true↔∃a:Int,0≤a∧a<N∧fw L k a a<0:=fun k=>by
  rw[dQ];constructor
  ·rintro⟨a,h1,h2⟩;have:=List.mem_range.1 h1;exact⟨a,by omega,by omega,of_decide_eq_true h2⟩
  ·rintro⟨a,h0,h1,h2⟩;exact⟨a.toNat,List.mem_range.2 (by omega),decide_eq_true (by rw[show((a.toNat:Nat):Int)=a by omega]; exact h2)⟩
 rcases fw_all hS with⟨j,hj,hT,hb,hall⟩|hall
 ·rw[aoX hS hj hT hb,if_neg (by simp)];refine ņ (fun v=>∃k:Nat,k≤j∧v=((k:Int),B7 N (fw L k))∧Tab L N k (fw L k)) (fun v=>N-v.1.toNat) ?_ ⟨0,by omega,rfl,hall 0 (by omega)⟩;rintro v ⟨k,hkj,rfl,hTk⟩;dsimp only
  have hL6:∀kn:Int×List (List Int)→Option (List (List Int)×Bool),jE (N:Int) (k:Int) (B7 N (fw L k)) (fun u67 u68=>kn (u67,u68)) (fun z64=>some (([]:List (List Int)),z64.1)) (fun z65=>some (z65,true))=if ((List.range N).any fun(a:Nat)=>decide (fw L (k+1) a a<0)) then some ([],false) else kn ((k:Int)+1,B7 N (fw L (k+1))):=fun kn=>by
   unfold jE;rw[Ô (decide_eq_true (by omega))];refine(ahp hS (by omega) hTk _).trans ?_;have:=an6 hn (upF (fw L k) k) (some (([]:List (List Int)),false)) (ck ((k:Int)+1) fun n56=>kn (n56,B7 N (upF (fw L k) k)));rw[Õ (by omega) (by omega)] at this;refine Eq.trans ?_ this;rw[Õ (by omega) (by omega)];congr 1
  rcases Nat.lt_or_eq_of_le hkj with hlt|rfl
  ·refine .inr ⟨(((k+1:Nat):Int),B7 N (fw L (k+1))),⟨k+1,hlt,rfl,hall (k+1) hlt⟩,by dsimp only; omega,fun kn=>?_⟩;have hd:=hall (k+1) hlt;rw[hL6 kn,if_neg]
   ·push_cast; rfl
   ·intro h;obtain⟨a,h0,h1,h2⟩:=(anyOf (k+1)).1 h;rw[hd.diag a h0 h1] at h2;omega
  ·refine .inl fun kn=>?_;rw[hL6 kn,if_pos ((anyOf (k+1)).2 hb)]
 ·have hT:=hall N (Nat.le_refl _);rw[al8 hS hT,if_pos rfl];refine ņ (fun v=>∃k:Nat,k≤N∧v=((k:Int),B7 N (fw L k))) (fun v=>N-v.1.toNat) ?_ ⟨0,by omega,rfl⟩;rintro v ⟨k,hkj,rfl⟩;dsimp only;rcases Nat.lt_or_eq_of_le hkj with hlt|rfl
  ·have hd:=hall (k+1) hlt;refine .inr ⟨(((k+1:Nat):Int),B7 N (fw L (k+1))),⟨k+1,hlt,rfl⟩,by dsimp only; omega,fun kn=>?_⟩;unfold jE;rw[Ô (decide_eq_true (by omega))];refine(ahp hS hlt (hall k hkj) _).trans ?_;refine ņ (fun v=>∃a:Nat,a≤N∧v=(a:Int)) (fun v=>N-v.toNat) ?_ ⟨0,by omega,rfl⟩;rintro v ⟨a,ha,rfl⟩;rcases Nat.lt_or_eq_of_le ha with hl|rfl
   ·have ha0:(0:Int)≤a∧(a:Int)<N:=by omega
    refine .inr ⟨((a+1:Nat):Int),⟨a+1,hl,rfl⟩,by omega,fun kn'=>?_⟩;unfold iH;have hda:upF (fw L k) k a a=0:=hd.diag a ha0.1 ha0.2;rw[Ô (decide_eq_true ha0.2)];simp only[vC,ĵ ha0.1 ha0.2,qV _ ha0.1 ha0.2,oJ,mZ _ ha0.1 ha0.2,hda];rw[Ò (by rfl),Õ (by omega) (by omega)];push_cast;rfl
   ·refine .inl fun kn'=>?_;unfold iH;rw[Ò (decide_eq_false (by omega)),Õ (by omega) (by omega)];push_cast;rfl
  ·refine .inl fun kn=>?_;unfold jE;rw[Ò (decide_eq_false (by omega))];refine congrArg _ (congrArg (·,true) ?_);exact sK fun a b h0 h1 h2 h3=>fw_dst hS ht hT ⟨h0,h1⟩ ⟨h2,h3⟩
end
def AU (n lo hi:Int):lS n lo hi=some (inP n lo hi):=by
 unfold lS afJ inP ige ile
 cases h:decide (lo≤n)<;>simp_all
def aa8 (n:Int):wW n=some (Jk n):=by
 unfold wW YX;rw[AU]; rfl
def xg (s:Int×Int) (lo hi:Int):jv s lo hi=some (jX s lo hi):=by
 unfold jv yI jX ile
 cases decide (lo≤s.1)<;>cases decide (s.1≤s.2)<;>rfl
def arn {l:List Int} (hn:l.length≤1000000) (x:Int):O6 l x=some (l.contains x):=by
 unfold O6 YU;refine Eq.trans (ī l (fun a=>a==x) (fun _=>some true) (some true) (some false) (fun _=>rfl) (fun i a hi ha kn=>?_) (fun kn=>?_)) ?_
 ·try dsimp only
  unfold vR;rw[Ó hi,É ha,Ì hi (by omega),Ė]
 ·try dsimp only
  unfold vR;rw[Ü]
 ·have:l.any (fun a=>a==x)=l.contains x:=by
   rw[dJ,dQ,ej];constructor
   ·rintro⟨a,ha,e⟩; rw[←eq_of_beq e]; exact ha
   ·intro h; exact⟨x,h,by simp⟩
  rw[this]
  cases l.contains x<;>rfl
def ajB {a b:List Int} {i:Nat} {x:Int} (h:a[i]?=some x):è (a.take (i+1)) b=è (a.take i) b++if b.contains x then[] else[x]:=by
 rw[take_succ h,è,è,gD];congr 1
 cases hx:b.contains x<;>simp only[dZ,hx,d9,gh,dm,if_false,if_true,eo]
def aa7 {a b:List Int} (ha:a.length≤1000000) (hb:b.length≤1000000):ka a b=some (è a b):=by
 unfold ka QK;refine ò a (fun i=>è (a.take i) b) _ rfl (fun i x hi hx kn=>?_) (fun kn=>?_)
 ·try dsimp only
  unfold rI
  have hl:(è (a.take i) b).length≤1000000:=by
   have:=Al (a.take i) b;rw[di] at this;omega
  rw[Ó hi,É hx,arn hb,À,ajB hx]
  cases b.contains x with
  |true=>rw[Ò (by rfl),Ì hi (by omega)]; simp
  |false=>rw[Ô (by rfl),É hx,Ø (by simp only[dI]; omega),Am.iff_true,Ì hi (by omega)]; simp
 ·try dsimp only
  unfold rI;rw[Ü,List.take_length]
def Nu (a b:List Int):Int:=(è a b).head?.getD 0
def LO {a b:List Int} (ha:a.length≤1000000) (hb:b.length≤1000000):pb a b=some (Nu a b):=by
 unfold pb YA Nu;rw[aa7 ha hb,À,á]
 cases h:è a b with
 |nil=>rfl
 |cons x t =>
  rw[Ò (by simp[ieq]; omega)];exact É (i:=0) rfl _
def Pe {b:Þ} (hn:b.2.1.length≤1000000) (id:Int):qv b id=some (match b.2.1.findIdx? (fun g=>g.1==id) with|some j=>(j:Int)|none=>-1):=by
 unfold qv QP;refine Eq.trans (Υ b.2.1 (fun g=>g.1==id) (fun z=>some z) (some (-1)) (fun i a hi ha kn=>?_) (fun kn=>?_)) ?_
 ·try dsimp only
  unfold rJ;rw[Ó hi,É ha,Ì hi (by omega),Ė]
 ·try dsimp only
  unfold rJ;rw[Ü]
 ·cases List.findIdx? (fun g:é=>g.1==id) b.2.1<;>rfl
def Bm {b:Þ} {id:Int}:(∃j g,b.2.1.findIdx? (fun g=>g.1==id)=some j∧b.2.1[j]?=some g∧ŏ b id=some g)∨(b.2.1.findIdx? (fun g=>g.1==id)=none∧ŏ b id=none):=by
 unfold ŏ;rw[aaw]
 cases h:b.2.1.findIdx? (fun g=>g.1==id) with
 |none=>exact .inr ⟨rfl,rfl⟩
 |some j =>
  obtain⟨hj,_,_⟩:=dN.1 h;exact .inl ⟨j,_,rfl,cQ hj,cQ hj⟩
def ω (b:Þ) (id day:Int):Int:=match ŏ b id with|some g=>if day<g.2.1 then 4 else 0|none=>5
def Jy {b:Þ} (hn:b.2.1.length≤1000000) (id day:Int):mQ b id day=some (ω b id day):=by
 unfold mQ Ke ω;rw[Pe hn,À];rcases Bm (b:=b) (id:=id) with⟨j,g,h1,h2,h3⟩|⟨h1,h2⟩
 ·rw[h1,h3]
  try dsimp only
  rw[Ò (by simp[ilt]),É h2,Ė]
  by_cases hd:day<g.2.1
  ·rw[if_pos (by simpa[ilt] using hd),if_pos hd]
  ·rw[if_neg (by simpa[ilt] using hd),if_neg hd]
 ·rw[h1,h2];rfl
def DS {b:Þ} (hi:b.2.1.Pairwise fun a b=>a.1<b.1) (id day:Int):ω b id day=jm (Ů b) id day:=by
 unfold ω jm;rw[ig hi]
 cases ŏ b id<;>rfl
def aiU {b:Þ} (hn:b.2.2.2.1.length≤1000000) (id day:Int):Ax b id day=some (match jW b id day with|some l=>(l,true)|none=>((0,(0,0),0),false)):=by
 unfold Ax QI;refine alI b.2.2.2.1 (fun _=>((0:Int),(0:Int),(0:Int),(0:Int))) _ (fun i=>∀l∈b.2.2.2.1.take i,(l.1==id&&inP day l.2.1.1 l.2.1.2)=false) rfl (by simp) (fun i a hi ha hP kn=>?_) (fun hP kn=>?_)
 ·try dsimp only
  unfold rH;rw[Ó hi,É ha]
  by_cases hm:(a.1==id&&inP day a.2.1.1 a.2.1.2)=true
  ·refine .inl ?_;have hm2:=hm;simp only[inP,cW,beq_iff_eq,decide_eq_true_eq] at hm2;rw[Ô (by simp[ieq,hm2.1]),Ô (by simp[ile,hm2.2.1]),Ô (by simp[ile,hm2.2.2])]
   have hf:jW b id day=some a:=by
    unfold jW;obtain⟨hi',rfl⟩:=List.getElem?_eq_some_iff.1 ha;rw[List.find?_eq_some_iff_getElem];refine⟨hm,i,hi',rfl,fun j hj=>?_⟩;have:=hP b.2.2.2.1[j] (List.mem_iff_getElem.2 ⟨j,by rw[List.length_take]; omega,by rw[List.getElem_take]⟩);simp[this]
   rw[hf]
  ·refine .inr ⟨fun l hl=>?_,?_⟩
   ·rw[take_succ ha,dc,dh] at hl;rcases hl with hl|rfl
    ·exact hP l hl
    ·simpa using hm
   ·have hm2:=hm;simp only[inP,cW,beq_iff_eq,decide_eq_true_eq] at hm2
    by_cases h1:a.1=id
    ·by_cases h2:a.2.1.1≤day
     ·rw[Ô (by simp[ieq,h1]),Ô (by simp[ile,h2]),Ò (by simp[ile]; exact Int.lt_of_not_ge fun h3=>hm2 ⟨h1,h2,h3⟩),Ì hi (by omega)]
     ·rw[Ô (by simp[ieq,h1]),Ò (by simp[ile]; omega),Ì hi (by omega)]
    ·rw[Ò (by simp[ieq,h1]),Ì hi (by omega)]
 ·try dsimp only
  unfold rH;rw[Ü]
  have:jW b id day=none:=by
   unfold jW;rw[List.find?_eq_none];intro l hl;have:=hP l (by rw[List.take_length]; exact hl);simp[this]
  rw[this]
def apT {b:Þ} (hn:b.2.2.1.length≤1000000) (id day:Int):IZ b id day=some (Nn b id day):=by
 unfold IZ Qp;refine Eq.trans (ī b.2.2.1 (fun u=>u.1==id&&u.2==day) (fun _=>some true) (some true) (some false) (fun _=>rfl) (fun i a hi ha kn=>?_) (fun kn=>?_)) ?_
 ·try dsimp only
  unfold rr;rw[Ó hi,É ha,É ha,Ì hi (by omega)]
  cases h1:(a.1==id) with
  |false=>have:ieq a.1 id=false:=h1; simp[this]
  |true =>
   have:ieq a.1 id=true:=h1;rw[this]
   cases h2:(a.2==day) with
   |false=>have:ieq a.2 day=false:=h2; simp[this]
   |true=>have:ieq a.2 day=true:=h2; simp[this]
 ·try dsimp only
  unfold rr;rw[Ü]
 ·unfold Nn
  cases b.2.2.1.any _<;>rfl
def anH (a b:Nat):Bv a b=some ((Nat.gcd a b:Nat):Int):=by
 unfold Bv Za;refine ņ (fun x:Int×Int=>∃c d:Nat,x=((c:Int),(d:Int))∧Nat.gcd c d=Nat.gcd a b) (fun x=>x.2.toNat) ?_ ⟨a,b,rfl,rfl⟩;rintro x ⟨c,d,rfl,hg⟩
 cases d with
 |zero =>
  refine .inl fun kn=>?_;rw[Nat.gcd_zero_right] at hg;unfold vU;simp[hg,ine]
 |succ d =>
  refine .inr ⟨(((d+1:Nat):Int),((c % (d+1):Nat):Int)),⟨d+1,c % (d+1),rfl,?_⟩,?_,fun kn=>?_⟩
  ·rw[←hg,gQ c (d+1),Nat.gcd_rec (d+1) c,gQ]
  ·have:=gH c (gE d);simp only[dn];omega
  ·unfold vU
   have h1:ine ((d+1:Nat):Int) 0=true:=by simp[ine]; omega
   have h2:ü ((d+1:Nat):Int) 0=false:=by simp[ü]; omega
   simp only[h1,Ô Ò h2];congr 1
def anJ {n:Int} (h : -9223372036854775807≤n∧n≤9223372036854775807):I3 n=some (n.natAbs:Int):=by
 unfold I3 Ze
 by_cases hn:n<0
 ·rw[Ô (by simpa[ilt] using hn),Õ (by omega) (by omega)];congr 1;omega
 ·rw[Ò (by simpa[ilt] using hn)];congr 1;omega
def anB (r:Int×Int):Bt r=some (LX r):=by
 unfold Bt Kq LX
 by_cases h1:1≤r.2
 ·rw[Ò (by simp[ilt]; omega)]
  by_cases h2:r.2≤2147483647
  ·rw[Ò (by simp[igt]; omega)]
   by_cases h3:r.1 < -2147483647
   ·rw[Ô (by simp[ilt]; omega)]
    have:¬((r.1.natAbs:Int)≤2147483647):=by omega
    simp[this]
   ·rw[Ò (by simp[ilt]; omega)]
    by_cases h4:2147483647<r.1
    ·rw[Ô (by simp[igt]; omega)]
     have:¬((r.1.natAbs:Int)≤2147483647):=by omega
     simp[this]
    ·rw[Ò (by simp[igt]; omega),anJ ⟨by omega,by omega⟩,À]
     have h5:r.2=((r.2.natAbs:Nat):Int):=by omega
     have h6:((r.1.natAbs:Int)≤2147483647):=by omega
     rw[h5,anH,À,←h5];congr 1;rw[dJ];simp only[ieq,beq_iff_eq,h1,h2,h6,decide_true,dX,decide_eq_true_eq];omega
  ·rw[Ô (by simp[igt]; omega)];simp[h2]
 ·rw[Ô (by simp[ilt]; omega)];simp[h1]
def anz (g:é):Br g=some (qp g):=by
 unfold Br Kc qp;rw[anB,AU,AU,aa8,AU,xg,AU];simp only[À]
 have e:igt g.2.2.2.2.1.2 100=!decide (g.2.2.2.2.1.2≤100):=by
  rw[dJ]; simp[igt]
 rw[e]
 cases LX g.2.2.2.2.1<;>cases inP g.2.2.2.2.1.1 (-1000) 1000<;>cases decide (g.2.2.2.2.1.2≤100)<;>cases inP g.1 1 1099511627776<;>cases Jk g.2.1<;>cases inP g.2.2.1 1 1125899906842624<;>cases jX g.2.2.2.1 (-1073741824) 1073741824<;>rfl
def afv {l:List Int}:∀(m:List Int) (j:Nat) (x:Bool),Ĩ (xR l) j m=some x→x=false:=by
 intro m
 induction m with
 |nil=>intro j x h; cases h
 |cons a m ih =>
  intro j x h;unfold Ĩ at h
  cases hp:xR l j a with
  |none=>rw[hp] at h; exact ih _ _ h
  |some y =>
   rw[hp] at h;cases h;unfold xR at hp
   split at hp
   ·cases hp; rfl
   ·split at hp
    ·cases hp; rfl
    ·cases hp
def aiT {l:List Int} (hn:l.length≤1000000):Aw l=some (l8 l):=by
 unfold Aw Qz;refine Eq.trans (iq l (xR l) some (some (decide (l.length≤6))) (fun i a hi ha kn=>?_) (fun kn=>?_)) ?_
 ·try dsimp only
  unfold rE;rw[Ó hi,É ha,AU,À];unfold xR
  cases inP a 1 1099511627776 with
  |false=>rfl
  |true =>
   simp only[d9,å,dm,if_false];rcases fA i with h0|h0
   ·subst h0
    have:igt ((0:Nat):Int) 0=false:=by simp[igt]
    rw[Ò this,Ì hi (by omega)];simp[Fl]
   ·obtain⟨q,hq⟩:=FB hi h0
    have h1:igt (i:Int) 0=true:=by simp[igt]; omega
    rw[Ô h1,É ha,Tp h0 (by omega),IJ h0 hq];simp only[Fl,h0,decide_true,Bool.true_and,hq,Option.any_some];unfold ile
    cases h2:decide (a≤q) with
    |true=>rfl
    |false =>
     rw[å,Ì hi (by omega)];rfl
 ·try dsimp only
  unfold rE;rw[Ü,á];simp[ile];omega
 ·unfold l8
  cases h:Ĩ (xR l) 0 l with
  |none=>rfl
  |some x=>rw[afv _ _ _ h]
def anv {c:Cmp} (hA:c.2.2.1.length≤1000000) (hB:c.2.2.2.1.length≤1000000):Bp c=some (Nv c):=by
 unfold Bp J9 Nv;rw[aiT hA,aiT hB,AU,aa8,AU,AU,xg];simp only[À]
 cases l8 c.2.2.1<;>cases l8 c.2.2.2.1<;>cases inP c.1 1 1099511627776<;>cases Jk c.2.1<;>cases inP c.2.2.2.2.1 (-1125899906842624) 1125899906842624<;>cases inP c.2.2.2.2.2.1 0 1073741824<;>cases jX c.2.2.2.2.2.2 (-10000) 10000<;>rfl
def abh (b:Þ) (u:Int×Int):Int:=if !Jk u.2 then 1 else ω b u.1 u.2
def ahj {b:Þ} (hi:b.2.1.Pairwise fun a b=>a.1<b.1) (u:Int×Int):abh b u=abi (Ů b) u.1 u.2:=by
 unfold abh abi;rw[DS hi]
def aim (e:Int):Option Int:=if e=0 then none else some e
def Ls {α:Type} (E:Nat→α→Int):∀(k:Nat) (l:List α),Ĩ (fun i a=>aim (E i a)) k l=(l.mapIdx fun i a=>E (i+k) a).find? (fun e=>e != 0)
 |_,[]=>rfl
 |k,a::t=>by
  unfold Ĩ;rw[Ls E (k+1) t,List.mapIdx_cons,List.find?_cons];unfold aim
  by_cases h:E k a=0
  ·simp only[h,if_true,dl];have:((0:Int) != 0)=false:=rfl;rw[this]
   have e:(fun(i:Nat) (a:α)=>E (i+(k+1)) a)=fun i a=>E (i+1+k) a:=by
    funext i a;congr 1;omega
   rw[e]
  ·simp only[h,if_false,dl]
   have:(E k a != 0)=true:=by simpa using h
   rw[this]
def S0 {α:Type} (E:Nat→α→Int) (l:List α):Ĩ (fun i a=>aim (E i a)) 0 l=(l.mapIdx E).find? (fun e=>e != 0):=Ls E 0 l
def S6 {α:Type} (E:α→Int) (l:List α):Ĩ (fun _ a=>aim (E a)) 0 l=(l.map E).find? (fun e=>e != 0):=by
 rw[Ls (fun _ a=>E a) 0 l];congr 1
 exact gM (by simp) fun i h1 h2=>by simp
def apP {b:Þ} (hs:ō b):IX b=some (((b.2.2.1.map (abh b)).find? (fun e=>e != 0)).getD 0):=by
 have h1:=hs.gauges;have h2:=hs.uses;unfold IX Qg;refine Eq.trans (iq b.2.2.1 (fun _ u=>aim (abh b u)) some (some 0) (fun i a hi ha kn=>?_) (fun kn=>?_)) ?_
 ·try dsimp only
  unfold rj;rw[Ó hi,É ha,aa8,À];unfold abh aim
  cases Jk a.2 with
  |false=>rfl
  |true =>
   rw[Ò (by rfl),É ha,É ha,Jy (b:=((b.1.1,b.1.2),b.2.1,b.2.2.1,b.2.2.2.1,b.2.2.2.2.1,b.2.2.2.2.2)) (by simp only; omega),À,Ì hi (by omega)];have e:ω ((b.1.1,b.1.2),b.2.1,b.2.2.1,b.2.2.2.1,b.2.2.2.2.1,b.2.2.2.2.2) a.1 a.2=ω b a.1 a.2:=rfl;rw[e]
   by_cases hz:ω b a.1 a.2=0
   ·rw[Ò (by simp[ine,hz])]; simp[hz]
   ·rw[Ô (by simp[ine,hz])]; simp[hz]
 ·try dsimp only
  unfold rj;rw[Ü]
 ·rw[S6]
  cases List.find? (fun e=>e != 0) (b.2.2.1.map (abh b))<;>rfl
def VN (b:Þ) (i:Nat) (l:JA):Int :=
 if !jX l.2.1 0 20000 then 1 else if !inP l.2.2 0 1048576 then 1 else if ω b l.1 l.2.1.1 != 0 then ω b l.1 l.2.1.1 else
 if (b.2.2.2.1.take i).any (fun x=>x.1==l.1&&(decide (x.2.1.1≤l.2.1.2)&&decide (l.2.1.1≤x.2.1.2))) then 9 else
 if b.2.2.1.any (fun u=>u.1==l.1&&inP u.2 l.2.1.1 l.2.1.2) then 9 else 0
def alP {b:Þ} (hi:b.2.1.Pairwise fun a b=>a.1<b.1) (i:Nat) (l:JA):VN b i l=IE b (Ů b) i l:=by
 unfold VN IE;rw[DS hi]
def anx {b:Þ} (hs:ō b):Bq b=some (((b.2.2.2.1.mapIdx (VN b)).find? (fun e=>e != 0)).getD 0):=by
 have h1:=hs.gauges;have h2:=hs.uses;have h3:=hs.loans;unfold Bq Ka;refine Eq.trans (iq b.2.2.2.1 (fun i l=>aim (VN b i l)) some (some 0) (fun i l hi hl kn=>?_) (fun kn=>?_)) ?_
 ·try dsimp only
  unfold oP;rw[Ó hi,É hl,xg,À];unfold VN aim
  cases jX l.2.1 0 20000 with
  |false=>rfl
  |true =>
  rw[Ò (by rfl),AU,À]
  cases inP l.2.2 0 1048576 with
  |false=>rfl
  |true =>
  rw[Ò (by rfl),Jy (b:=((b.1.1,b.1.2),b.2.1,b.2.2.1,b.2.2.2.1,b.2.2.2.2.1,b.2.2.2.2.2)) (by simp only; omega),À];have e:ω ((b.1.1,b.1.2),b.2.1,b.2.2.1,b.2.2.2.1,b.2.2.2.2.1,b.2.2.2.2.2) l.1 l.2.1.1=ω b l.1 l.2.1.1:=rfl;rw[e]
  by_cases hz:ω b l.1 l.2.1.1=0
  ·rw[Ò (by simp[ine,hz])]
   have hl9:(b.2.2.2.1.take i).length=i:=by rw[di]; omega
   have inner:Ñ (fun(v21:Int) kk23=>lF b.2.2.1 l.1 l.2.1.1 l.2.1.2 v21 (fun u22=>kk23 u22) (fun z18=>(some z18:Option Int)) (fun _=>ck ((i:Int)+(1:Int)) fun n20=>kn n20)) (0:Int)=if b.2.2.1.any (fun u=>u.1==l.1&&inP u.2 l.2.1.1 l.2.1.2) then some 9 else kn ((i:Int)+1):=by
    refine ī b.2.2.1 _ (fun _=>some 9) (some 9) (kn ((i:Int)+1)) (fun _=>rfl) (fun j a hj ha kn'=>?_) (fun kn'=>?_)
    ·try dsimp only
     unfold lF;rw[Ó hj,É ha,É ha,AU,À,Ì hj (by omega)]
     cases hq:(a.1==l.1) with
     |false=>have:ieq a.1 l.1=false:=hq; simp[this]
     |true =>
      have:ieq a.1 l.1=true:=hq;rw[this]
      cases inP a.2 l.2.1.1 l.2.1.2<;>simp
    ·try dsimp only
     unfold lF;rw[Ü];dsimp only;rw[Ì hi (by omega)]
   try dsimp only
   rw[inner];refine eG (ī (b.2.2.2.1.take i) (fun x=>x.1==l.1&&(decide (x.2.1.1≤l.2.1.2)&&decide (l.2.1.1≤x.2.1.2))) (fun _=>some 9) (some 9) (if b.2.2.1.any (fun u=>u.1==l.1&&inP u.2 l.2.1.1 l.2.1.2) then some 9 else kn ((i:Int)+1)) (fun _=>rfl) (fun j a hj ha kn'=>?_) (fun kn'=>?_)) ?_
   ·try dsimp only
    unfold oO;rw[hl9] at hj
    have ha':b.2.2.2.1[j]?=some a:=by rwa [List.getElem?_take_of_lt hj] at ha
    rw[Ô (show ilt (j:Int) (i:Int)=true by simp[ilt]; omega),É ha',É ha',É ha',Ì hj (by omega)]
    cases hq:(a.1==l.1) with
    |false=>have:ieq a.1 l.1=false:=hq; simp[this]
    |true =>
     have:ieq a.1 l.1=true:=hq;rw[this]
     cases h5:decide (a.2.1.1≤l.2.1.2)<;>cases h6:decide (l.2.1.1≤a.2.1.2)<;>simp[ile,h5,h6,Ė]<;>simp_all
   ·try dsimp only
    unfold oO;rw[hl9,Ò (show ilt (i:Int) (i:Int)=false by simp[ilt])]
   ·simp only[hz]
    cases List.any (b.2.2.2.1.take i) _<;>cases b.2.2.1.any _<;>rfl
  ·rw[Ô (by simp[ine,hz])]; simp[hz]
 ·try dsimp only
  unfold oP;rw[Ü]
 ·rw[S0 (VN b)]
  cases(b.2.2.2.1.mapIdx (VN b)).find? (fun e=>e != 0)<;>rfl
def Cb (b:Þ) (c:Cmp):Int :=
 if (c.2.2.1++c.2.2.2.1).any (fun id=>ω b id c.2.1==5) then 5 else
 if (c.2.2.1++c.2.2.2.1).any (fun id=>ω b id c.2.1 != 0) then 4 else
 if (c.2.2.1++c.2.2.2.1).any (fun id=>(jW b id c.2.1).isSome) then 9 else
 if 1<(è c.2.2.1 c.2.2.2.1).length then 1 else if 1<(è c.2.2.2.1 c.2.2.1).length then 1 else
 if (è c.2.2.1 c.2.2.2.1).length+(è c.2.2.2.1 c.2.2.1).length=0 then 1 else 0
def aou {b:Þ} (hi:b.2.1.Pairwise fun a b=>a.1<b.1) (c:Cmp):Cb b c=ym b (Ů b) c:=by
 unfold Cb ym;simp only[DS hi]
 by_cases h5:(c.2.2.1++c.2.2.2.1).any (fun id=>jm (Ů b) id c.2.1==5)=true
 ·rw[if_pos h5,if_pos h5]
 ·rw[if_neg h5,if_neg h5]
  have e:(c.2.2.1++c.2.2.2.1).any (fun id=>jm (Ů b) id c.2.1 != 0)=(c.2.2.1++c.2.2.2.1).any (fun id=>jm (Ů b) id c.2.1==4):=by
   rw[dJ,dQ,dQ];constructor
   ·rintro⟨x,hx,h⟩;refine⟨x,hx,?_⟩;rcases PX (Ů b) x c.2.1 with h1|h1|h1
    ·rw[h1] at h; cases h
    ·rw[h1]; rfl
    ·exact absurd (dQ.2 ⟨x,hx,by rw[h1]; rfl⟩) h5
   ·rintro⟨x,hx,h⟩;refine⟨x,hx,?_⟩;rw[eq_of_beq h]; rfl
  rw[e]
def afh {b:Þ} {id d:Int}:(ω b id d==5)=(b.2.1.findIdx? (fun g=>g.1==id)).isNone:=by
 unfold ω;rcases Bm (b:=b) (id:=id) with⟨j,g,h1,h2,h3⟩|⟨h1,h2⟩
 ·rw[h1,h3]
  try dsimp only
  split<;>rfl
 ·rw[h1,h2]; rfl
set_option maxHeartbeats 1000000 in
def aeX {b:Þ} (hs:ō b) {c:Cmp} (hA:c.2.2.1.length≤1000) (hB:c.2.2.2.1.length≤1000):jM b c=some (Cb b c):=by
 have h1:=hs.gauges;have h3:=hs.loans;unfold jM vM Cb;rw[Ø (by omega),Am.iff_true,List.nil_append,Ø (by omega),Am.iff_true]
 have hl:(c.2.2.1++c.2.2.2.1).length≤2000:=by rw[cX]; omega
 generalize hP:c.2.2.1++c.2.2.2.1=P at hl
 have hol:∀{i:Nat},i<P.length→((ile (0:Int) (i:Int))&&(ilt (i:Int) (Ĕ P)))=true:=fun {i} hi=>by simp[ile,ilt,Ĕ]; omega
 have third:Ñ (fun(v19:Int) kk21=>Η b.1.1 b.1.2 b.2.1 b.2.2.1 b.2.2.2.1 b.2.2.2.2.1 b.2.2.2.2.2 c.2.1 P v19 (fun u20=>kk21 u20) (fun z14=>some z14) (fun _=>Ã (ka c.2.2.1 c.2.2.2.1) fun r16=>Ã (ka c.2.2.2.1 c.2.2.1) fun r17=>ifb (igt (Ú r16) (1:Int)) (some (1:Int)) (ifb (igt (Ú r17) (1:Int)) (some (1:Int)) (ck ((Ú r16)+(Ú r17)) fun n18=>ifb (ieq n18 (0:Int)) (some (1:Int)) (some (0:Int)))))) (0:Int) =
  some (if P.any (fun id=>(jW b id c.2.1).isSome) then 9 else if 1<(è c.2.2.1 c.2.2.2.1).length then 1 else if 1<(è c.2.2.2.1 c.2.2.1).length then 1 else if (è c.2.2.1 c.2.2.2.1).length+(è c.2.2.2.1 c.2.2.1).length=0 then 1 else 0):=by
  refine eG (ī P (fun id=>(jW b id c.2.1).isSome) (fun _=>some 9) (some 9) (some (if 1<(è c.2.2.1 c.2.2.2.1).length then 1 else if 1<(è c.2.2.2.1 c.2.2.1).length then 1 else if (è c.2.2.1 c.2.2.2.1).length+(è c.2.2.2.1 c.2.2.1).length=0 then 1 else 0)) (fun _=>rfl) (fun i a hi ha kn=>?_) (fun kn=>?_)) ?_
  ·try dsimp only
   unfold Η;rw[Ó hi,Ĭ (hol hi),ĭ ha,aiU (b:=((b.1.1,b.1.2),b.2.1,b.2.2.1,b.2.2.2.1,b.2.2.2.2.1,b.2.2.2.2.2)) (by simp only; omega),À,Ì hi (by omega)];have e:jW ((b.1.1,b.1.2),b.2.1,b.2.2.1,b.2.2.2.1,b.2.2.2.2.1,b.2.2.2.2.2) a c.2.1=jW b a c.2.1:=rfl;rw[e]
   cases jW b a c.2.1<;>rfl
  ·try dsimp only
   unfold Η;rw[Ü];dsimp only;have l1:=Al c.2.2.1 c.2.2.2.1;have l2:=Al c.2.2.2.1 c.2.2.1;rw[aa7 (by omega) (by omega),À,aa7 (by omega) (by omega),À];simp only[á]
   by_cases q1:1<(è c.2.2.1 c.2.2.2.1).length
   ·rw[Ô (by simp[igt]; omega),if_pos q1]
   ·rw[Ò (by simp[igt]; omega),if_neg q1]
    by_cases q2:1<(è c.2.2.2.1 c.2.2.1).length
    ·rw[Ô (by simp[igt]; omega),if_pos q2]
    ·rw[Ò (by simp[igt]; omega),if_neg q2,Õ (by omega) (by omega)]
     by_cases q3:(è c.2.2.1 c.2.2.2.1).length+(è c.2.2.2.1 c.2.2.1).length=0
     ·rw[Ô (by simp[ieq]; omega),if_pos q3]
     ·rw[Ò (by simp[ieq]; omega),if_neg q3]
  ·cases P.any _<;>rfl
 have second:Ñ (fun(v22:Int) kk24=>iX b.1.1 b.1.2 b.2.1 b.2.2.1 b.2.2.2.1 b.2.2.2.2.1 b.2.2.2.2.2 c.2.1 P v22 (fun u23=>kk24 u23) (fun z9=>some z9) (fun _=>Ñ (fun(v19:Int) kk21=>Η b.1.1 b.1.2 b.2.1 b.2.2.1 b.2.2.2.1 b.2.2.2.2.1 b.2.2.2.2.2 c.2.1 P v19 (fun u20=>kk21 u20) (fun z14=>some z14) (fun _=>Ã (ka c.2.2.1 c.2.2.2.1) fun r16=>Ã (ka c.2.2.2.1 c.2.2.1) fun r17=>ifb (igt (Ú r16) (1:Int)) (some (1:Int)) (ifb (igt (Ú r17) (1:Int)) (some (1:Int)) (ck ((Ú r16)+(Ú r17)) fun n18=>ifb (ieq n18 (0:Int)) (some (1:Int)) (some (0:Int)))))) (0:Int))) (0:Int) =
  some (if P.any (fun id=>ω b id c.2.1 != 0) then 4 else if P.any (fun id=>(jW b id c.2.1).isSome) then 9 else if 1<(è c.2.2.1 c.2.2.2.1).length then 1 else if 1<(è c.2.2.2.1 c.2.2.1).length then 1 else if (è c.2.2.1 c.2.2.2.1).length+(è c.2.2.2.1 c.2.2.1).length=0 then 1 else 0):=by
  rw[third];refine eG (ī P (fun id=>ω b id c.2.1 != 0) (fun _=>some 4) (some 4) (some (if P.any (fun id=>(jW b id c.2.1).isSome) then 9 else if 1<(è c.2.2.1 c.2.2.2.1).length then 1 else if 1<(è c.2.2.2.1 c.2.2.1).length then 1 else if (è c.2.2.1 c.2.2.2.1).length+(è c.2.2.2.1 c.2.2.1).length=0 then 1 else 0)) (fun _=>rfl) (fun i a hi ha kn=>?_) (fun kn=>?_)) ?_
  ·try dsimp only
   unfold iX;rw[Ó hi,Ĭ (hol hi),ĭ ha,Jy (b:=((b.1.1,b.1.2),b.2.1,b.2.2.1,b.2.2.2.1,b.2.2.2.2.1,b.2.2.2.2.2)) (by simp only; omega),À,Ì hi (by omega)];have e:ω ((b.1.1,b.1.2),b.2.1,b.2.2.1,b.2.2.2.1,b.2.2.2.2.1,b.2.2.2.2.2) a c.2.1=ω b a c.2.1:=rfl;rw[e,Ė]
  ·try dsimp only
   unfold iX;rw[Ü]
  ·cases P.any (fun id=>ω b id c.2.1 != 0)<;>rfl
 rw[second];refine eG (ī P (fun id=>ω b id c.2.1==5) (fun _=>some 5) (some 5) (some (if P.any (fun id=>ω b id c.2.1 != 0) then 4 else if P.any (fun id=>(jW b id c.2.1).isSome) then 9 else if 1<(è c.2.2.1 c.2.2.2.1).length then 1 else if 1<(è c.2.2.2.1 c.2.2.1).length then 1 else if (è c.2.2.1 c.2.2.2.1).length+(è c.2.2.2.1 c.2.2.1).length=0 then 1 else 0)) (fun _=>rfl) (fun i a hi ha kn=>?_) (fun kn=>?_)) ?_
 ·try dsimp only
  unfold kj;rw[Ó hi,Ĭ (hol hi),ĭ ha,Pe (b:=((b.1.1,b.1.2),b.2.1,b.2.2.1,b.2.2.2.1,b.2.2.2.2.1,b.2.2.2.2.2)) (by simp only; omega),À,Ì hi (by omega),afh]
  try dsimp only
  cases List.findIdx? (fun g:é=>g.1==a) b.2.1 with
  |none=>rfl
  |some j =>
   have:ilt (j:Int) 0=false:=by simp[ilt]
   rw[Ò this]; rfl
 ·try dsimp only
  unfold kj;rw[Ü]
 ·cases P.any (fun id=>ω b id c.2.1==5)<;>rfl
structure Pre (b:Þ):Prop where
 size:ō b
 gauge:∀g∈b.2.1,qp g=true
 cmp:∀c∈b.2.2.2.2.1,Jk c.2.1=true∧(è c.2.2.1 c.2.2.2.1).length≤1∧(è c.2.2.2.1 c.2.2.1).length≤1
 look:∀n∈b.2.2.2.2.2,Jk n.2=true
def acr {c:Cmp} (h:Nv c=true):Jk c.2.1=true:=by
 have:=((Ο c).1 h).2.1;simp[Jk,inP,this.1,this.2]
def Č.pre {b:Þ} (h:Č b):Pre b :=
 ⟨h.size,h.gauge,fun c hc=>⟨acr (h.nums hc),(h.lefts hc).1,(h.lefts hc).2.1⟩,fun n hn=>(by have:=(Pk h (h.looks n hn)).1; simp[Jk,inP,this.1,this.2])⟩
def Yf {a b:List Int} (h:(è a b).length≤1) {id:Int} (h0:id≠0):Nu a b=id↔id∈a∧id∉b:=by
 rw[←iY];unfold Nu
 cases hl:è a b with
 |nil =>
  simp only[List.head?_nil,Option.getD_none,fY,iff_false];exact fun e=>h0 e.symm
 |cons x t =>
  have:t=[]:=by
   rw[hl] at h;simp only[dg] at h;exact dt.1 (by omega)
  subst this;simp only[List.head?_cons,fu,dh];exact eq_comm
def OD (b:Þ) (g:é) (d:Int):Bool :=
 g.2.1==d||b.2.2.2.2.1.any (fun c=>c.2.1==d&&(Nu c.2.2.1 c.2.2.2.1==g.1||Nu c.2.2.2.1 c.2.2.1==g.1))||b.2.2.2.2.2.any (fun n=>n.1==g.1&&n.2==d)
def apS {b:Þ} (hs:ō b) (g:é) (d:Int):IY b g d=some (OD b g d):=by
 have h1:=hs.compares;have h2:=hs.looks;unfold IY Qn OD
 cases hm:(g.2.1==d) with
 |true =>
  have:ieq g.2.1 d=true:=hm;rw[Ô this];simp
 |false =>
  have:ieq g.2.1 d=false:=hm;rw[Ò this]
  have inner:Ñ (fun(v14:Int) kk16=>ny d b.2.2.2.2.2 g.1 v14 (fun u15=>kk16 u15) (fun z12=>some z12) (fun _=>some false)) (0:Int)=some (b.2.2.2.2.2.any (fun n=>n.1==g.1&&n.2==d)):=by
   refine eG (ī b.2.2.2.2.2 (fun n=>n.1==g.1&&n.2==d) (fun _=>some true) (some true) (some false) (fun _=>rfl) (fun i a hi ha kn=>?_) (fun kn=>?_)) ?_
   ·try dsimp only
    unfold ny;rw[Ó hi,É ha,É ha,Ì hi (by omega)]
    cases h1:(a.1==g.1) with
    |false=>have:ieq a.1 g.1=false:=h1; simp[this]
    |true =>
     have:ieq a.1 g.1=true:=h1;rw[this]
     cases h2:(a.2==d) with
     |false=>have:ieq a.2 d=false:=h2; simp[this]
     |true=>have:ieq a.2 d=true:=h2; simp[this]
   ·try dsimp only
    unfold ny;rw[Ü]
   ·cases b.2.2.2.2.2.any _<;>rfl
  rw[inner];refine eG (ī b.2.2.2.2.1 (fun c=>c.2.1==d&&(Nu c.2.2.1 c.2.2.2.1==g.1||Nu c.2.2.2.1 c.2.2.1==g.1)) (fun _=>some true) (some true) (some (b.2.2.2.2.2.any (fun n=>n.1==g.1&&n.2==d))) (fun _=>rfl) (fun i a hi ha kn=>?_) (fun kn=>?_)) ?_
  ·have hp:=hs.piles a (cZ ha)
   try dsimp only
   unfold rq;rw[Ó hi,É ha,LO (by omega) (by omega),LO (by omega) (by omega),Ì hi (by omega)];simp only[À]
   cases h1:(a.2.1==d) with
   |false=>have:ieq a.2.1 d=false:=h1; simp[this]
   |true =>
    have:ieq a.2.1 d=true:=h1;rw[this]
    cases h2:(Nu a.2.2.1 a.2.2.2.1==g.1) with
    |true=>have:ieq (Nu a.2.2.1 a.2.2.2.1) g.1=true:=h2; simp[this]
    |false =>
     have:ieq (Nu a.2.2.1 a.2.2.2.1) g.1=false:=h2;rw[this]
     cases h3:(Nu a.2.2.2.1 a.2.2.1==g.1) with
     |true=>have:ieq (Nu a.2.2.2.1 a.2.2.1) g.1=true:=h3; simp[this]
     |false=>have:ieq (Nu a.2.2.2.1 a.2.2.1) g.1=false:=h3; simp[this]
  ·try dsimp only
   unfold rq;rw[Ü]
  ·cases b.2.2.2.2.1.any _<;>rfl
def ann {b:Þ} (h:Pre b) {g:é} (hg:g∈b.2.1) {d:Int}:OD b g d=true↔d∈à b g:=by
 have hid:g.1≠0:=by
  have:=((uU g).1 (h.gauge g hg)).2.2.2.1;omega
 rw[Ω];unfold OD;simp only[Bool.or_eq_true,List.any_eq_true,Bool.and_eq_true,beq_iff_eq,or_assoc];refine or_congr eq_comm (or_congr ?_ Iff.rfl);constructor
 ·rintro⟨c,hc,e,h1⟩;obtain⟨_,l1,l2⟩:=h.cmp c hc;refine⟨c,hc,?_,e⟩;rw[Yf l1 hid,Yf l2 hid] at h1;intro he;rw[dJ,ej,ej] at he;rcases h1 with⟨x,y⟩|⟨x,y⟩
  ·exact y (he.1 x)
  ·exact y (he.2 x)
 ·rintro⟨c,hc,h1,e⟩;obtain⟨_,l1,l2⟩:=h.cmp c hc;refine⟨c,hc,e,?_⟩;rw[Yf l1 hid,Yf l2 hid]
  by_cases ha:g.1∈c.2.2.1
  ·by_cases hb:g.1∈c.2.2.2.1
   ·exact absurd (by rw[dJ,ej,ej]; exact⟨fun _=>hb,fun _=>ha⟩) h1
   ·exact .inl ⟨ha,hb⟩
  ·by_cases hb:g.1∈c.2.2.2.1
   ·exact .inr ⟨hb,ha⟩
   ·exact absurd (by rw[dJ,ej,ej]; exact⟨fun x=>absurd x ha,fun x=>absurd x hb⟩) h1
def nx (v:Int) (D:List Int):Int:=D.foldl (fun m d=>if v<d then min m d else m) 20001
def alo (v:Int) (D:List Int) (d:Int):nx v (D++[d])=if v<d then min (nx v D) d else nx v D:=by
 unfold nx;rw[List.foldl_append];rfl
def Yg (v:Int):∀D:List Int,nx v D≤20001∧(∀d∈D,v<d→nx v D≤d)∧(nx v D=20001∨(nx v D∈D∧v<nx v D)):=by
 suffices H:∀(n:Nat) (D:List Int),D.length=n→nx v D≤20001∧(∀d∈D,v<d→nx v D≤d)∧(nx v D=20001∨(nx v D∈D∧v<nx v D)) from fun D=>H _ D rfl
 intro n
 induction n with
 |zero =>
  intro D hD;rw[dt.1 hD];exact⟨dE _,by simp,.inl rfl⟩
 |succ n ih =>
  intro D' hD'
  obtain⟨D,d,rfl⟩:∃D d,D'=D++[d]:=by
   rcases List.eq_nil_or_concat D' with rfl|⟨L,b,rfl⟩
   ·simp at hD'
   ·exact⟨L,b,by simp⟩
  obtain⟨h1,h2,h3⟩:=ih D (by simpa using hD');rw[alo]
  by_cases hd:v<d
  ·rw[if_pos hd];refine⟨by omega,fun x hx hv=>?_,?_⟩
   ·rcases dc.1 hx with hx|hx
    ·have:=h2 x hx hv; omega
    ·rw[dh] at hx; omega
   ·rcases Int.le_total (nx v D) d with h|h
    ·rw[Int.min_eq_left h];rcases h3 with h3|h3
     ·exact .inl h3
     ·exact .inr ⟨by simp[h3.1],h3.2⟩
    ·rw[Int.min_eq_right h];exact .inr ⟨by simp,hd⟩
  ·rw[if_neg hd];refine⟨h1,fun x hx hv=>?_,?_⟩
   ·rcases dc.1 hx with hx|hx
    ·exact h2 x hx hv
    ·rw[dh] at hx; omega
   ·rcases h3 with h3|h3
    ·exact .inl h3
    ·exact .inr ⟨by simp[h3.1],h3.2⟩
def aqM {D:List Int} (hD:D.length≤1000000) (v:Int) (K:Int→Option (List (Int×Int))) :
 Ñ (fun(v18:Int×Int) kk21=>lG v D v18.1 v18.2 (fun u19 u20=>kk21 (u19,u20)) K) ((20001:Int),(0:Int))=K (nx v D):=by
 refine ņ (fun x:Int×Int=>∃k:Nat,k≤D.length∧x=(nx v (D.take k),(k:Int))) (fun x=>D.length-x.2.toNat) ?_ ⟨0,by omega,rfl⟩;rintro x ⟨k,hk,rfl⟩;rcases dz k D.length with hlt|hge
 ·refine .inr ⟨(nx v (D.take (k+1)),((k+1:Nat):Int)),⟨k+1,hlt,rfl⟩,by simp only[Int.toNat_natCast]; omega,fun kn=>?_⟩;have ha:D[k]?=some D[k]:=List.getElem?_eq_getElem hlt;unfold lG;have ho:Ĕ D=((D.length:Nat):Int):=rfl;rw[Ó hlt,ho,iu hlt,ĭ ha,take_succ ha,alo]
  by_cases h:v<D[k]
  ·rw[Ô (by simpa[igt] using h),iu hlt,ĭ ha,Ì hlt (by omega),if_pos h,Ap];simp
  ·rw[Ò (by simpa[igt] using h),Ì hlt (by omega),if_neg h];simp
 ·have:k=D.length:=by omega
  subst this;refine .inl fun kn=>?_;unfold lG;rw[Ü,List.take_length]
def akj (b:Þ) (g:é) (D:List Int) (v:Int):List Int:=(XS D).filter fun d=>decide (v<d)&&OD b g d
def TM {b:Þ} {g:é} {D:List Int} (hD:∀d∈D,d≤20000) (v:Int):akj b g D v=if nx v D<20001 then(if OD b g (nx v D) then nx v D::akj b g D (nx v D) else akj b g D (nx v D)) else[]:=by
 obtain⟨h1,h2,h3⟩:=Yg v D;refine aaX ((vw D).sublist fH) ?_ fun x=>?_
 ·split
  ·split
   ·rw[dP];refine⟨fun a ha=>?_,(vw D).sublist fH⟩;have:=(dS.1 ha).2;simp at this;omega
   ·exact(vw D).sublist fH
  ·exact List.Pairwise.nil
 ·have hm:∀v x,x∈akj b g D v↔x∈D∧v<x∧OD b g x=true:=by
   intro v x;unfold akj;rw[List.mem_filter,mX];simp
  rw[hm]
  split
  ·rename_i hlt
   have h4:nx v D∈D∧v<nx v D:=by
    rcases h3 with h3|h3
    ·omega
    ·exact h3
   split
   ·rename_i ha;rw[df,hm];constructor
    ·rintro⟨a,c,e⟩;have:=h2 x a c;rcases Int.lt_or_eq_of_le this with h|h
     ·exact .inr ⟨a,h,e⟩
     ·exact .inl h.symm
    ·rintro(rfl|⟨a,c,e⟩)
     ·exact⟨h4.1,h4.2,ha⟩
     ·exact⟨a,by omega,e⟩
   ·rename_i ha;rw[hm];constructor
    ·rintro⟨a,c,e⟩;have:=h2 x a c;rcases Int.lt_or_eq_of_le this with h|h
     ·exact⟨a,h,e⟩
     ·rw[←h] at e; exact absurd e ha
    ·rintro⟨a,c,e⟩;exact⟨a,by omega,e⟩
  ·rename_i hge;constructor
   ·rintro⟨a,c,e⟩;have:=h2 x a c;have:=hD x a;omega
   ·intro h; cases h
def apJ {b:Þ} {g:é} {D:List Int} (v:Int):(akj b g D v).length≤D.length :=
 dC (dO _ _) (Fu D)
set_option maxHeartbeats 1000000 in
def apb {b:Þ} (hs:ō b) {i:Nat} {g:é} (hg:b.2.1[i]?=some g) {D:List Int} (hl:D.length≤1000000) (hD:∀d∈D,d≤20000) {out:List (Int×Int)} (ho:out.length+D.length≤1000000000) (K:List (Int×Int)→Option (List (Int×Int))) :
 Ñ (fun(v24:Int×List (Int×Int)) kk27=>lH (i:Int) b.1.1 b.1.2 b.2.1 b.2.2.1 b.2.2.2.1 b.2.2.2.2.1 b.2.2.2.2.2 D v24.1 v24.2 (fun u25 u26=>kk27 (u25,u26)) K) ((-1:Int),out)=K (out++(akj b g D (-1)).map fun d=>((g.1,d):Int×Int)):=by
 refine ņ (fun x:Int×List (Int×Int)=>x.2++(akj b g D x.1).map (fun d=>((g.1,d):Int×Int))=out++(akj b g D (-1)).map fun d=>((g.1,d):Int×Int)) (fun x=>(20001-x.1).toNat) ?_ rfl;rintro⟨v,o⟩ hI;simp only at hI
 by_cases hv:v<20001
 ·obtain⟨h1,h2,h3⟩:=Yg v D
  have hlt:v<nx v D:=by
   rcases h3 with h3|h3
   ·omega
   ·exact h3.2
  refine .inr ⟨(nx v D,if nx v D<20001∧OD b g (nx v D)=true then o++[(g.1,nx v D)] else o),?_,by simp only; omega,fun kn=>?_⟩
  ·rw[←hI];simp only;rw[TM hD v]
   by_cases ha:nx v D<20001
   ·rw[if_pos ha]
    cases hq:OD b g (nx v D) with
    |true=>rw[if_pos ⟨ha,rfl⟩,if_pos rfl]; simp
    |false=>rw[if_neg (by simp),if_neg (by simp)]
   ·rw[if_neg (by omega),if_neg ha]
    have:akj b g D (nx v D)=[]:=by
     have e:=TM (b:=b) (g:=g) hD (nx v D);rw[e,if_neg];obtain⟨g1,g2,g3⟩:=Yg (nx v D) D;rcases g3 with g3|g3
     ·omega
     ·have:=hD _ g3.1; omega
    rw[this]
  ·unfold lH;rw[Ô (by simpa[ilt] using hv)];refine Eq.trans (aqM hl v _) ?_;dsimp only
   by_cases ha:nx v D<20001
   ·rw[Ô (by simpa[ilt] using ha),É hg,apS (b:=((b.1.1,b.1.2),b.2.1,b.2.2.1,b.2.2.2.1,b.2.2.2.2.1,b.2.2.2.2.2)) ⟨hs.gauges,hs.uses,hs.loans,hs.compares,hs.looks,hs.piles⟩,À];have e:OD ((b.1.1,b.1.2),b.2.1,b.2.2.1,b.2.2.2.1,b.2.2.2.2.1,b.2.2.2.2.2) g (nx v D)=OD b g (nx v D):=rfl;rw[e]
    cases hq:OD b g (nx v D) with
    |true =>
     have hol:o.length≤1000000000:=by
      have:=congrArg List.length hI;simp only[cX,dV] at this;have:=apJ (b:=b) (g:=g) (D:=D) (-1);omega
     rw[Ô rfl,É hg,Ø (by simp only[dI]; omega),Am.iff_true,if_pos ⟨ha,rfl⟩]
    |false=>rw[Ò rfl,if_neg (by simp)]
   ·rw[Ò (by simpa[ilt] using ha),if_neg (by omega)]
 ·refine .inl fun kn=>?_;unfold lH;rw[Ò (by simpa[ilt] using hv)]
  have:akj b g D v=[]:=by
   rw[TM hD,if_neg];obtain⟨g1,g2,g3⟩:=Yg v D;rcases g3 with g3|g3
   ·omega
   ·have:=hD _ g3.1; omega
  rw[this] at hI;simp only[fo,dR] at hI;rw[hI]
def AQ (b:Þ):List Int:=b.2.1.map (fun g=>g.2.1)++b.2.2.2.2.1.map (fun c=>c.2.1)++b.2.2.2.2.2.map fun n=>n.2
def ag4 {b:Þ} (hs:ō b):(AQ b).length≤3000:=by
 have h1:=hs.gauges; have h2:=hs.compares; have h3:=hs.looks;simp only[AQ,cX,dV];omega
def Pre.days {b:Þ} (h:Pre b):∀d∈AQ b,0≤d∧d≤20000:=by
 intro d hd;simp only[AQ,dc,dM] at hd;rcases hd with(⟨g,hg,rfl⟩|⟨c,hc,rfl⟩)|⟨n,hn,rfl⟩
 ·have:=((uU g).1 (h.gauge g hg)).2.2.2.2.1;omega
 ·have:=(h.cmp c hc).1;simp only[Jk,inP,cW,decide_eq_true_eq] at this;exact this
 ·have:=h.look n hn;simp only[Jk,inP,cW,decide_eq_true_eq] at this;exact this
def ano {b:Þ} (h:Pre b) {g:é} (hg:g∈b.2.1):akj b g (AQ b) (-1)=à b g:=by
 refine aaX ((vw _).sublist List.filter_sublist) (tq b g) fun x=>?_;unfold akj;rw[List.mem_filter,mX,Bool.and_eq_true,ann h hg,decide_eq_true_eq];constructor
 ·exact fun hx=>hx.2.2
 ·intro hx
  have hm:x∈AQ b:=by
   simp only[AQ,dc,dM];rcases Ω.1 hx with e|⟨c,hc,_,e⟩|⟨n,hn,_,e⟩
   ·exact .inl (.inl ⟨g,hg,e.symm⟩)
   ·exact .inl (.inr ⟨c,hc,e⟩)
   ·exact .inr ⟨n,hn,e⟩
  have:=h.days x hm;exact⟨hm,by omega,hx⟩
def Ym {α:Type} (f:α→Int) (l:List α) (s:List Int) (i:Nat) {a:α} (ha:l[i]?=some a):s++(l.take (i+1)).map f=(s++(l.take i).map f)++[f a]:=by
 rw[take_succ ha,gT,du]; rfl
def Jz {b:Þ} (h:Pre b):jO b=some (Í b):=by
 have h1:=h.size.gauges; have h2:=h.size.compares; have h3:=h.size.looks;have hl:=ag4 h.size;unfold jO Kh;refine ò b.2.1 (fun i=>(b.2.1.take i).map (fun g=>g.2.1)) _ rfl (fun i a hi ha kn=>?_) (fun kn=>?_)
 ·try dsimp only
  unfold oT;have:=Ym (fun g:é=>g.2.1) b.2.1 [] i ha;simp only[List.nil_append] at this;rw[Ó hi,É ha,Ø (by simp only[List.length_map,List.length_take,List.length_singleton]; omega),Am.iff_true,Ì hi (by omega),this]
 ·try dsimp only
  unfold oT;rw[Ü,List.take_length];dsimp only;refine ò b.2.2.2.2.1 (fun i=>b.2.1.map (fun g=>g.2.1)++(b.2.2.2.2.1.take i).map (fun c=>c.2.1)) _ (by simp) (fun i a hi ha kn=>?_) (fun kn=>?_)
  ·try dsimp only
   unfold oS;rw[Ó hi,É ha,Ø (by simp only[List.length_append,List.length_map,List.length_take,List.length_singleton]; omega),Am.iff_true,Ì hi (by omega),Ym (fun c:Cmp=>c.2.1) b.2.2.2.2.1 _ i ha]
  ·try dsimp only
   unfold oS;rw[Ü,List.take_length];dsimp only;refine ò b.2.2.2.2.2 (fun i=>b.2.1.map (fun g=>g.2.1)++b.2.2.2.2.1.map (fun c=>c.2.1)++(b.2.2.2.2.2.take i).map (fun n=>n.2)) _ (by simp) (fun i a hi ha kn=>?_) (fun kn=>?_)
   ·try dsimp only
    unfold oR;rw[Ó hi,É ha,Ø (by simp only[List.length_append,List.length_map,List.length_take,List.length_singleton]; omega),Am.iff_true,Ì hi (by omega),Ym (fun n:Int×Int=>n.2) b.2.2.2.2.2 _ i ha]
   ·try dsimp only
    unfold oR;rw[Ü,List.take_length];dsimp only;rw[show b.2.1.map (fun g=>g.2.1)++b.2.2.2.2.1.map (fun c=>c.2.1)++b.2.2.2.2.2.map (fun n=>n.2)=AQ b from rfl];refine ò b.2.1 (fun i=>(b.2.1.take i).flatMap fun g=>(à b g).map fun d=>((g.1,d):Int×Int)) _ rfl (fun i g hi hg kn=>?_) (fun kn=>?_)
    ·try dsimp only
     unfold oQ;rw[Ó hi]
     have hlen:((b.2.1.take i).flatMap fun g=>(à b g).map fun d=>((g.1,d):Int×Int)).length≤2001000:=by
      have:=wS (fun g:é=>(à b g).map fun d=>((g.1,d):Int×Int)) 2001 (fun g=>by rw[dV]; exact Jj h.size g) (b.2.1.take i);rw[di] at this;have:min i b.2.1.length*2001≤1000*2001:=dH _ (by omega);omega
     refine eG (apb h.size hg (by omega) (fun d hd=>(h.days d hd).2) (by omega) _) ?_;rw[Ì hi (by omega),ano h (cZ hg),take_succ hg,eW];simp
    ·try dsimp only
     unfold oQ;rw[Ü,List.take_length];rfl
def XI {n d:Int} (hd:0<d) (hn:n.natAbs≤2147483647) (hd2:d≤2147483647):qw n d=some (od n d,0):=by
 obtain⟨g,h0,hg,h1,h2⟩:=A1 (n:=n) hd;have hr:=(ki _).1 (XX hd hn hd2)
 have z:ü d 0=false:=by simp[ü]; omega
 have zg:ü (g:Int) 0=false:=by simp[ü]; omega
 unfold qw Ex
 by_cases hn0:n=0
 ·subst hn0
  have e:od 0 d=(0,1):=by
   unfold od
   have:(Nat.gcd (0:Int).natAbs d.natAbs:Int)=d:=by simp; omega
   rw[this,Int.ediv_self (by omega)];simp
  rw[Ò (by rfl),Ò z,Õ (by simp) (by simp),Ò z,Int.tdiv_self (by omega),Õ (by omega) (by omega),Int.zero_tdiv,e];rfl
 ·rw[Ô (by simpa[ine] using hn0),Ò z];have a0:(Int.tmod n d).natAbs=n.natAbs % d.natAbs:=gR n d;have hlt:=gH n.natAbs (show 0<d.natAbs by omega);rw[anJ ⟨by omega,by omega⟩,À]
  have ed:d=((d.natAbs:Nat):Int):=by omega
  have eg:Bv ((Int.tmod n d).natAbs:Int) d=some (g:Int):=by
   have:=anH (Int.tmod n d).natAbs d.natAbs;rw[←ed] at this;rw[this,a0,hg];congr 2;rw[gQ n.natAbs,Nat.gcd_rec d.natAbs n.natAbs]
  rw[eg,À,Ò zg]
  have q1:Int.tdiv n (g:Int)=(od n d).1:=by
   conv=>lhs; rw[h1]
   exact gA _ (by omega)
  have q2:Int.tdiv d (g:Int)=(od n d).2:=by
   conv=>lhs; rw[h2]
   exact gA _ (by omega)
  rw[q1,q2,Õ (by omega) (by omega),Ò zg,Õ (by omega) (by omega),Ò (by simp[igt]; omega),Ò (by simp[ilt]; omega),Ò (by simp[igt]; omega)]
def arm {x y:Int×Int} (hx:qM x 1000 100) (hy:qM y 1000 100):O7 x y=some (subP x y,0):=by
 obtain⟨b1,b2,b3⟩:=JH hx hy;have h1:=m5 hx.num (show -100≤y.2∧y.2≤100 from⟨by have:=hy.pos; omega,hy.den⟩);have h2:=m5 hy.num (show -100≤x.2∧x.2≤100 from⟨by have:=hx.pos; omega,hx.den⟩);have h3:=hy.num;unfold O7 Y5 aay Y7 aaz Zd;rw[Õ (by omega) (by omega),À];dsimp only
 have e:(0-y.1)*x.2 = -(y.1*x.2):=by rw[Int.zero_sub,Int.neg_mul]
 rw[Õ (by omega) (by omega),e,Õ (by omega) (by omega),Õ (by omega) (by omega),Õ (by omega) (by omega)]
 have e2:x.1*y.2 + -(y.1*x.2)=x.1*y.2-y.1*x.2:=by omega
 rw[e2,XI b2 (by omega) (by omega),À,À];rfl
def anF {k:Int×Int} (hk:qM k 200000 10000) {n:Int} (hn : -10000≤n∧n≤10000):wX (n,1) k=some (F0 k n,0):=by
 have b:=J0 hk hn;have p:=hk.pos;have q:=hk.den;unfold wX Y8;have e:n*k.1=k.1*n:=Int.mul_comm _ _;dsimp only;rw[e,Int.one_mul,Õ (by omega) (by omega),Õ (by omega) (by omega),XI (by omega) (by omega) (by omega),À];rfl
def anE {k:Int×Int} (hk:qM k 200000 10000) {heat:Int×Int} (hh:jX heat (-10000) 10000=true):Bu ((heat.1,1),(heat.2,1)) k=some (Yd k heat,0):=by
 simp only[jX,Bool.and_eq_true,decide_eq_true_eq] at hh;have hp:=hk.pos;rw[ajf (by omega) hh.2.1];unfold Bu Kr I1 Q4;dsimp only;rw[anF hk ⟨by omega,by omega⟩,anF hk ⟨by omega,by omega⟩]
 by_cases hn:k.1<0
 ·rw[Ô (by simpa[ilt] using hn),if_pos hn];rfl
 ·rw[Ò (by simpa[ilt] using hn),if_neg hn];rfl
def anA {r:Int×Int} (h:LX r=true):Bw r=some (r.1 / r.2):=by
 have:=(ki r).1 h;have e:=aau (n:=r.1) (d:=r.2) (by omega) (by omega);unfold ve HS at e;unfold Bw Kt Ta Q2;rw[e];rfl
def apR {r:Int×Int} (h:LX r=true):I2 r=some (LF r):=by
 have hr:=(ki r).1 h;unfold I2 Q6 agB afO
 have z:ü r.2 0=false:=by simp[ü]; omega
 have t:=Int.mul_tdiv_add_tmod r.1 r.2
 have b1 : -4000000000≤Int.tdiv r.1 r.2∧Int.tdiv r.1 r.2≤4000000000:=by
  have:=Int.natAbs_tdiv_le_natAbs r.1 r.2;omega
 have h5 : -r.2<Int.tmod r.1 r.2∧Int.tmod r.1 r.2<r.2:=by
  have h6:=gR r.1 r.2;have h7:=gH r.1.natAbs (show 0<r.2.natAbs by omega);omega
 rw[Ò z,Õ (by omega) (by omega),Ò z,Ė];unfold LF
 by_cases hp:0<Int.tmod r.1 r.2
 ·rw[if_pos (by simpa[igt] using hp),Õ (by omega) (by omega),À];congr 1
  have : -r.1 / r.2 = -(Int.tdiv r.1 r.2)-1:=by
   refine(f9 (by omega)).2 ⟨?_,?_⟩
   ·rw[Int.sub_mul,Int.neg_mul,fK (Int.tdiv r.1 r.2)]; omega
   ·rw[Int.sub_mul,Int.neg_mul,fK (Int.tdiv r.1 r.2)]; omega
  omega
 ·rw[if_neg (by simpa[igt] using hp),À];congr 1
  have : -r.1 / r.2 = -(Int.tdiv r.1 r.2):=by
   refine(f9 (by omega)).2 ⟨?_,?_⟩
   ·rw[Int.neg_mul,fK (Int.tdiv r.1 r.2)]; omega
   ·rw[Int.neg_mul,fK (Int.tdiv r.1 r.2)]; omega
  omega
structure arw (b:Þ) (c:Cmp):Prop where
 ok:aha b c
 ids:b.2.1.Pairwise fun a b=>a.1<b.1
 pile:∀x∈c.2.2.1++c.2.2.2.1,∃g,ŏ b x=some g
def Č.cmpIn {b:Þ} (h:Č b) {c:Cmp} (hc:c∈b.2.2.2.2.1):arw b c:=⟨h.cmp hc,h.ids,fun x hx=>by obtain⟨⟨g,hg,_⟩,_⟩:=h.pile hc hx; exact⟨g,hg⟩⟩
def aha.ne {b:Þ} {c:Cmp} (h:aha b c):∀x∈c.2.2.1++c.2.2.2.1,x≠0:=by
 intro x hx;have hn:=(Ο c).1 h.nums;have h1:=((FC _).1 hn.2.2.2.2.2.1).1;have h2:=((FC _).1 hn.2.2.2.2.2.2).1;rcases dc.1 hx with hx|hx
 ·have:=h1 x hx; omega
 ·have:=h2 x hx; omega
def aeW {b:Þ} (hs:ō b) (hi:b.2.1.Pairwise fun a b=>a.1<b.1) {p q:List Int} (hx:∀x∈p,x≠0∧∃g,ŏ b x=some g):uV b (Nu p q)=some (yk (Ů b) (è p q)):=by
 have h1:=hs.gauges;unfold uV Kb
 cases hl:è p q with
 |nil =>
  have:Nu p q=0:=by unfold Nu; rw[hl]; rfl
  rw[this];rfl
 |cons x t =>
  have e:Nu p q=x:=by unfold Nu; rw[hl]; rfl
  have hm:x∈p:=(iY.1 (show x∈è p q by rw[hl]; simp)).1;obtain⟨h0,g,hg⟩:=hx x hm;rw[e,Ò (by simpa[ieq] using h0),Pe (by omega),À];rcases Bm (b:=b) (id:=x) with⟨j,g',h2,h3,h4⟩|⟨h2,h3⟩
  ·rw[h2]
   try dsimp only
   rw[É h3];unfold yk;dsimp only;rw[ig hi,h4]
  ·rw[h3] at hg; cases hg
def akn {b:Þ} (hs:ō b) {c:Cmp} (h:arw b c):wV b c=some (Ķ b c):=by
 have hn:=(Ο c).1 h.ok.nums;have ha:=ĺ hn.2.2.2.2.2.1;have hb:=ĺ hn.2.2.2.2.2.2;have hA:∀x∈c.2.2.1,x≠0∧∃g,ŏ b x=some g:=fun x hx=>⟨h.ok.ne x (by simp[hx]),h.pile x (by simp[hx])⟩;have hB:∀x∈c.2.2.2.1,x≠0∧∃g,ŏ b x=some g:=fun x hx=>⟨h.ok.ne x (by simp[hx]),h.pile x (by simp[hx])⟩;unfold wV Et;rw[LO (by omega) (by omega),À,aeW hs h.ids hA,À,LO (by omega) (by omega),À,aeW hs h.ids hB,À,arm h.ok.r1 h.ok.r2,À]
 try dsimp only
 rw[anE (heat:=c.2.2.2.2.2.2) (Pn h.ok.r1 h.ok.r2) hn.2.2.2.2.1,À];rfl
def anI {b:Þ} {c:Cmp} (hA:c.2.2.1.length≤1000) (hB:c.2.2.2.1.length≤1000) (h1:0≤b.1.1) (h2:b.1.1≤1000000) (h3:0≤b.1.2) (h4:b.1.2≤1000000):Bs b c=some (iZ b c):=by
 unfold Bs Kk iZ
 have e:∀n:Nat,T0 0 ((n:Int)-1)=((n-1:Nat):Int):=by
  intro n;unfold T0
  split<;>omega
 have bd:∀(n:Nat) (x:Int),n≤1000→0≤x→x≤1000000→0≤((n-1:Nat):Int)*x∧((n-1:Nat):Int)*x≤1000000000:=by
  intro n x hn h0 hx;refine⟨fX (by omega) h0,?_⟩;have:=fB (show((n-1:Nat):Int)≤1000 by omega) hx h0 (by omega);omega
 have b1:=bd _ _ hA h1 h2;have b2:=bd _ _ hA h3 h4;have b3:=bd _ _ hB h1 h2;have b4:=bd _ _ hB h3 h4;simp only[á];rw[Õ (by omega) (by omega),Õ (by omega) (by omega)];simp only[e];rw[Õ (by omega) (by omega),Õ (by omega) (by omega),Õ (by omega) (by omega),Õ (by omega) (by omega),Õ (by omega) (by omega),Õ (by omega) (by omega)]
def apU {b:Þ} (hs:ō b) (hf:0≤b.1.1∧b.1.1≤b.1.2∧b.1.2≤1000000) {c:Cmp} (h:arw b c):uW b c=some (Ŵ b c):=by
 have hn:=(Ο c).1 h.ok.nums;have ha:=ĺ hn.2.2.2.2.2.1;have hb:=ĺ hn.2.2.2.2.2.2;obtain⟨q1,q2,b1,b2,b3⟩:=yh hf h.ok;have c1:=BH q1;have c2:=wR q2;have fb:=wT (b:=b) (c:=c) (by omega) (by omega) (by omega) (by omega) (by omega) (by omega);have hd:=hn.2.2.1;unfold uW Qs Ŵ;rw[akn hs h,À,anI (by omega) (by omega) (by omega) (by omega) (by omega) (by omega),À,anA q2.rat,apR q1.rat];simp only[À];rw[Õ (by omega) (by omega),Õ (by omega) (by omega),Õ (by omega) (by omega),Õ (by omega) (by omega),Õ (by omega) (by omega),Õ (by omega) (by omega)]
section
variable {b:Þ}
def apV (h:Č b) {id:Int} {g:é} (hg:ŏ b id=some g) {f t:Int} (hf:0≤f∧f≤100000) (ht:t≤100000):uX b id f t=some (ip b g f t):=by
 have hG:=h.nG;have hU:=h.nU;have hL:=h.nL;obtain⟨hgm,hid⟩:=Φ hg;unfold uX QE;rw[Pe (by omega),À];rcases Bm (b:=b) (id:=id) with⟨j,g',h2,h3,h4⟩|⟨h2,h3⟩
 ·rw[h2]
  have:g'=g:=by rw[hg] at h4; exact(Option.some.inj h4).symm
  subst this
  try dsimp only
  rw[É h3];refine ņ (fun x:Int×Int=>f≤x.2∧(x.2≤t∨x.2=f)∧x.1=ip b g' f x.2) (fun x=>(t-x.2).toNat) ?_ ⟨dE _,.inr rfl,(Ah g' (dE _)).symm⟩;rintro⟨s,d⟩ ⟨hfd,hdt,hs⟩;simp only at hfd hdt hs;subst hs
  by_cases hd:d<t
  ·refine .inr ⟨(ip b g' f (d+1),d+1),⟨by simp only; omega,.inl (by simp only; omega),rfl⟩,by simp only; omega,fun kn=>?_⟩;have e:=SA h g' hfd;have lb:=kM h hgm (f:=f) (t:=d) hf.1;have lb2:=kM h hgm (f:=f) (t:=d+1) hf.1;unfold rG;rw[Ô (by simpa[ilt] using hd),aiU (b:=((b.1.1,b.1.2),b.2.1,b.2.2.1,b.2.2.2.1,b.2.2.2.2.1,b.2.2.2.2.2)) (by simp only; omega),À];have e1:jW ((b.1.1,b.1.2),b.2.1,b.2.2.1,b.2.2.2.1,b.2.2.2.2.1,b.2.2.2.2.2) id d=jW b id d:=rfl;rw[e1];unfold agJ at e;rw[hid] at e
   cases ha:jW b id d with
   |some l =>
    rw[ha] at e;simp only at e;rw[Ô rfl]
    try dsimp only
    rw[←e,Õ (by omega) (by omega),Õ (by omega) (by omega)]
   |none =>
    rw[ha] at e;simp only at e;rw[Ò rfl,apT (b:=((b.1.1,b.1.2),b.2.1,b.2.2.1,b.2.2.2.1,b.2.2.2.2.1,b.2.2.2.2.2)) (by simp only; omega),À];have e2:Nn ((b.1.1,b.1.2),b.2.1,b.2.2.1,b.2.2.2.1,b.2.2.2.2.1,b.2.2.2.2.2) id d=Nn b id d:=rfl;rw[e2]
    cases hu:Nn b id d with
    |true =>
     rw[hu,if_pos rfl] at e;rw[Ô rfl]
     try dsimp only
     rw[←e,Õ (by omega) (by omega),Õ (by omega) (by omega)]
    |false =>
     rw[hu,if_neg (by simp)] at e;rw[Ò rfl,Õ (by omega) (by omega),e,f0]
  ·refine .inl fun kn=>?_;unfold rG;rw[Ò (by simpa[ilt] using hd)]
   have:ip b g' f d=ip b g' f t:=by
    rcases gG t f with hlt|hge
    ·have:d=f:=by omega
     rw[this,Ah g' (dE _),Ah g' (by omega)]
    ·have:d=t:=by omega
     rw[this]
   rw[this]
 ·rw[h3] at hg; cases hg
end
end Go.Proofs.ZzM
end
