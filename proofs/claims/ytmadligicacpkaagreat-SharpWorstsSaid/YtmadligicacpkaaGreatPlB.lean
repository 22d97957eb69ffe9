/- lemmas -/
import Derived.Test.YtmadligicacpkaaGreatPlA
import Derived.Test.YtmadligicacpkaaGreatMdTA
set_option linter.all false
set_option linter.unusedSectionVars false
set_option linter.unusedVariables false
set_option linter.unusedSimpArgs false
noncomputable section
namespace Go.Proofs.ZzM
open Go Go.Am
section
variable {L:List Lk} {N:Nat}
def Wl.app {u v:Int} {vs:List Int} {d:Int} (h1:Wl L (fun x=>x=u) vs v d) {ws:List Int} {w e:Int} (h2:Wl L (fun x=>x=v) ws w e):∃xs,Wl L (fun x=>x=u) xs w (d+e):=by
 induction h2 with
 |nil h=>subst h; exact⟨vs,by rw[gp]; exact h1⟩
 |step hw hx ih =>
  obtain⟨xs,hi⟩:=ih;have:=Wl.step hi hx;rw[Int.add_assoc] at this;exact⟨_,this⟩
def dst (L:List Lk) (N:Nat) (s t:Int):Int:=gv (j5 L N s) t
def alq (h:ł L N) (ht:I7 L N) (ho:Ğ L N=true) {s t:Int} (hs:0≤s∧s<N) (hv:0≤t∧t<N):dst L N s t≤9007199254740992:=by
 have h2:=h.n60;obtain⟨p,hp⟩:=(œ h.links (by omega)).1 ho;obtain⟨vs,d,hw,hd⟩:=ht.from' s hs.1 hs.2;obtain⟨ws,e,hx,he⟩:=ht.to t hv.1 hv.2;obtain⟨xs,hy⟩:=Wl.app hw hx;have:=(jK h.links (by omega) hp hs).low t xs _ (abj.2 hy);unfold dst;omega
def aht (h:ł L N) (ht:I7 L N) (ho:Ğ L N=true) {s t:Int} (hs:0≤s∧s<N) (hv:0≤t∧t<N):dst L N s t≠ĸ:=by
 have:=alq h ht ho hs hv;unfold ĸ;omega
def alp (h:ł L N) (ht:I7 L N) (ho:Ğ L N=true) {s:Int} (hs:0≤s∧s<N):Pot L (dst L N s):=by
 have h2:=h.n60;obtain⟨p,hp⟩:=(œ h.links (by omega)).1 ho;intro u v m hl;have hr:=h.inr _ hl;exact(jK h.links (by omega) hp hs).pot h.inr hl (aht h ht ho hs hr.1)
def ahs (h:ł L N) (ho:Ğ L N=true) {s:Int} (hs:0≤s∧s<N):dst L N s s=0:=af5 h ho hs.1 hs.2
def SA (h:ł L N) (ht:I7 L N) (ho:Ğ L N=true) {s t:Int} (hs:0≤s∧s<N) (hv:0≤t∧t<N) {p:Int→Int} (hp:Pot L p):p t-p s≤dst L N s t:=by
 have h2:=h.n60;obtain⟨vs,hw⟩:=(jK h.links (by omega) hp hs).att t hv.1 hv.2 (aht h ht ho hs hv);obtain⟨u,hu,hx⟩:=(abj.1 hw).pot hp;subst hu;exact hx
def apH (h:ł L N) (ht:I7 L N) (ho:Ğ L N=true) {x y:Int} (hx:0≤x∧x<N) (hy:0≤y∧y<N) {t:Int} (h1 : -(dst L N x y)≤t) (h2:t≤dst L N y x):∃p,Pot L p∧p x-p y=t:=by
 refine⟨fun v=>min (dst L N y v) (dst L N x v+t),fun u v m hl=>?_,?_⟩
 ·have a1:=alp h ht ho hy u v m hl;have a2:=alp h ht ho hx u v m hl;show min _ _≤min _ _+m;omega
 ·have e1:=ahs h ho hx;have e2:=ahs h ho hy;show min (dst L N y x) (dst L N x x+t)-min (dst L N y y) (dst L N x y+t)=t;omega
def ado (h:ł L N) (ht:I7 L N) (ho:Ğ L N=true) {x y:Int} (hx:0≤x∧x<N) (hy:0≤y∧y<N) : -(dst L N x y)≤dst L N y x:=by
 have h2:=h.n60;obtain⟨p,hp⟩:=(œ h.links (by omega)).1 ho;have a1:=SA h ht ho hx hy hp;have a2:=SA h ht ho hy hx hp;omega
def WB (h:ł L N) (ht:I7 L N) (ho:Ğ L N=true) {s t:Int} (hs:0≤s∧s<N) (hv:0≤t∧t<N) : -9007199254740992≤dst L N s t∧dst L N s t≤9007199254740992:=by
 have a1:=alq h ht ho hs hv;have a2:=alq h ht ho hv hs;have a3:=ado h ht ho hv hs;omega
def BJ (h:ł L N) (ht:I7 L N) {s t:Int} (hs:0≤s∧s<N) (hv:0≤t∧t<N):iG L N s t=if Ğ L N then(dst L N s t,0) else(0,9):=by
 unfold iG
 by_cases ho:Ğ L N=true
 ·have hne:=aht h ht ho hs hv;unfold dst at hne ⊢;rw[if_neg (by simp[ho]),if_neg hne,if_pos ho]
 ·rw[if_pos (by simpa using ho),if_neg ho]
end
section
variable {b:â} {c:Cmp}
def apv (h':Ē (Ù b c)):GL (Ù b c) (å (Ù b c)):=by
 intro i g hg l hl;rw[Zz];exact cX.2 (.inl (dz.2 ⟨g,cZ hg,hl⟩))
def ι (h':Ē (Ù b c)):I7 (å (Ù b c)) ((Í (Ù b c)).length+1):=h'.tiedL (apv h')
def ś (h':Ē (Ù b c)):ł (å (Ù b c)) ((Í (Ù b c)).length+1) :=
 h'.sys.sub (fun l hl=>List.mem_of_mem_take hl) (by unfold å; rw[List.length_take]; omega)
def ki (h:Ē b) (h':Ē (Ù b c)):Ğ (å (Ù b c)) ((Í (Ù b c)).length+1)=Ğ (æ b) ((Í b).length+1):=by
 have n1:=h.sys.n60;have n2:=(ś h').n60;rw[dO,œ (ś h').links (by omega),œ h.sys.links (by omega)];exact(akb h h').symm
def kv:c∈(Ù b c).2.2.2.2.1:=by simp[Ù]
def vv (h':Ē (Ù b c)):0≤cx (Ù b c) c∧cx (Ù b c) c<((Í (Ù b c)).length+1:Nat):=(ZM h' kv).rng
def vu (h':Ē (Ù b c)):0≤cy (Ù b c) c∧cy (Ù b c) c<((Í (Ù b c)).length+1:Nat):=(SE h' kv).rng
def dLo (b:â) (c:Cmp):Int:=-(dst (å (Ù b c)) ((Í (Ù b c)).length+1) (cx (Ù b c) c) (cy (Ù b c) c))
def dHi (b:â) (c:Cmp):Int:=dst (å (Ù b c)) ((Í (Ù b c)).length+1) (cy (Ù b c) c) (cx (Ù b c) c)
def E5 (h:Ē b) (h':Ē (Ù b (Â c))):Þ b c=if Ğ (æ b) ((Í b).length+1) then Lw b (Â c) (dLo b (Â c),dHi b (Â c)) else((0,0),9):=by
 have e:xh b (Â c)=(Ù b (Â c),0):=by
  unfold xh;rw[if_neg (by simp[(ó b).2 h]),if_neg (by simp[(ó _).2 h'])]
 unfold Þ;rw[e,BJ (ś h') (ι h') (vu h') (vv h'),BJ (ś h') (ι h') (vv h') (vu h'),ki h h']
 by_cases ho:Ğ (æ b) ((Í b).length+1)=true
 ·rw[if_pos ho,if_pos ho,if_pos ho];rfl
 ·rw[if_neg ho,if_neg ho,if_neg ho];rfl
def mf (hp:(Þ b c).2=0):Ē b∧Ē (Ù b (Â c)):=by
 have hw:(xh b (Â c)).2=0:=by
  unfold Þ at hp
  by_cases hw:(xh b (Â c)).2=0
  ·exact hw
  ·rw[if_pos hw] at hp; exact hp
 unfold xh at hw
 by_cases hb:è b=0
 ·rw[if_neg (by simp[hb])] at hw
  by_cases hm:è (Ù b (Â c))=0
  ·exact⟨(ó b).1 hb,(ó _).1 hm⟩
  ·rw[if_pos hm] at hw; exact absurd hw hm
 ·rw[if_pos hb] at hw; exact absurd hw hb
def aep {s:Int×Int} (h:(Lw b c s).2=0):MK b c≤oo b c∧Lw b c s=((s.1+MK b c,s.2+oo b c),0):=by
 unfold Lw at h ⊢
 split at h
 ·simp at h
 ·rename_i hl;rw[if_neg hl];exact⟨by omega,rfl⟩
end
structure aop (B:â):Prop where
 good:Ē B
 op:Ğ (æ B) ((Í B).length+1)=true
 num:∀g∈B.2.1,I64 g.2.2.2.2.1.1
theorem jw {b:â} (hI:In b) {ns:List (Int×Int)} (e:(ù b ns).2=0):aop (ù b ns).1∧(ù b ns).1=(ŕ b ns).1∧(ŕ b ns).2=0∧Ē b:=by
 unfold ù at e ⊢
 by_cases hc:è b=0
 ·rw[if_neg (by simp[hc])] at e ⊢
  by_cases hr:(ŕ b ns).2=0
  ·rw[if_neg (by simp[hr])] at e ⊢
   cases ho:Ğ (æ (ŕ b ns).1) ((Í (ŕ b ns).1).length+1) with
   |true =>
    rw[if_pos rfl];exact⟨⟨Fm ((ó b).1 hc) hr,ho,by rw[vD hr]; exact hI.num⟩,rfl,hr,(ó b).1 hc⟩
   |false=>rw[ho] at e; simp at e
  ·rw[if_pos hr] at e; exact absurd e hr
 ·rw[if_pos hc] at e; exact absurd e hc
theorem Θ (B:â) (n:Int×Int):0≤wQ B n.1 n.2∧wQ B n.1 n.2<((Í B).length+1:Nat):=by
 unfold wQ
 cases h:iP (Í B) n.1 n.2 with
 |none=>dsimp only; omega
 |some j=>have:=(kT h).1; dsimp only; omega
theorem S8 {B:â} (h:Ē B) (hn:∀g∈B.2.1,I64 g.2.2.2.2.1.1) (s:Sys) (n:Int×Int):g9 (B,s) n=some (wQ B n.1 n.2):=by
 unfold g9 Em;rw[show ţ (B,s).1 n=ţ B n from rfl,Tj (h.inn hn),À,E6 h]
 split
 ·rename_i e; rw[e]
 ·rfl
theorem adP {B:â} {L:List Lk} {N:Nat} (h:ł L N) {to from':Int} (h1:0≤to∧to<N) (h2:0≤from'∧from'<N):Ď (B,(N:Int),L) to from'=some (iG L N from' to).1:=by
 unfold Ď s7;rw[show(B,(N:Int),L).2=((N:Int),L) from rfl,OP h h2 h1,À]
def Og (B:â):Sys:=(((Í B).length:Int)+1,æ B)
def amF (B:â) (s t:Int):Int:=dst (æ B) ((Í B).length+1) s t
def ivR (B:â) (n:Int×Int):Int×Int:=(-(amF B (wQ B n.1 n.2) 0),amF B 0 (wQ B n.1 n.2))
theorem Jh (B:â):Og B=((((Í B).length+1:Nat):Int),æ B):=by unfold Og; push_cast; rfl
theorem iq (B:â):0≤(0:Int)∧(0:Int)<((Í B).length+1:Nat):=by omega
section
variable {B:â} (h:aop B)
include h
theorem K7 {s t:Int} (hs:0≤s∧s<((Í B).length+1:Nat)) (ht:0≤t∧t<((Í B).length+1:Nat)) : -9007199254740992≤amF B s t∧amF B s t≤9007199254740992 :=
 WB h.good.sys h.good.tied h.op hs ht
theorem BG {to from':Int} (h1:0≤to∧to<((Í B).length+1:Nat)) (h2:0≤from'∧from'<((Í B).length+1:Nat)):Ď (B,Og B) to from'=some (amF B from' to):=by
 rw[Jh,adP h.good.sys h1 h2,BJ h.good.sys h.good.tied h2 h1,if_pos h.op];rfl
theorem Wh (n:Int×Int):g8 (B,Og B) n=some (-(amF B (wQ B n.1 n.2) 0)):=by
 unfold g8 sZ;have hb:=K7 h (Θ B n) (iq B);rw[S8 h.good h.num,À,BG h (iq B) (Θ B n),À,Õ (by omega) (by omega)];congr 1;omega
theorem Ir (n:Int×Int):iF (B,Og B) n=some (amF B 0 (wQ B n.1 n.2)):=by
 unfold iF mS;rw[S8 h.good h.num,À,BG h (Θ B n) (iq B),À]
theorem wO (n:Int×Int):Α (B,Og B) n=some (ivR B n):=by
 unfold Α mR;rw[Wh h,À,Ir h,À];rfl
end
def I9 (b:â) (n:Int×Int):(Int×Int)×Int:=if (ù b [n]).2≠0 then((0,0),(ù b [n]).2) else(ivR (ù b [n]).1 n,0)
theorem Ti {b:â} (hI:In b) (n:Int×Int):ow b n=some (I9 b n):=by
 unfold ow zE I9;refine(rB hI (ns:=[n]) (by simp) (fun e=>some (((0,0):Int×Int),e)) (fun e he=>by rw[ĩ (by simp[ine,he])]) (fun z he=>by rw[ĩ (by simp[ine,he])]) (fun _ _ _=>rfl)).trans ?_
 split
 ·rfl
 ·rename_i e;have hr:=(jw hI (by simpa using e)).1;dsimp only;rw[wU,show((((Í (ù b [n]).1).length:Int)+1,æ (ù b [n]).1):Sys)=Og (ù b [n]).1 from rfl,wO hr,À]
theorem ajg {ρ:Type}:@tg ρ=@Č ρ:=rfl
theorem anw {ρ:Type}:@zD ρ=@Č ρ:=rfl
def btR (B:â) (m n:Int×Int):Int×Int:=(-(amF B (wQ B m.1 m.2) (wQ B n.1 n.2)),amF B (wQ B n.1 n.2) (wQ B m.1 m.2))
def aag (b:â) (m n:Int×Int):(Int×Int)×Int:=if (ù b [m,n]).2≠0 then((0,0),(ù b [m,n]).2) else(btR (ù b [m,n]).1 m n,0)
theorem ajs {b:â} (hI:In b) (m n:Int×Int):wZ b m n=some (aag b m n):=by
 unfold wZ Ew aag;rw[ajg];refine(rB hI (ns:=[m,n]) (by simp) (fun e=>some (((0,0):Int×Int),e)) (fun e he=>by rw[ĩ (by simp[ine,he])]) (fun z he=>by rw[ĩ (by simp[ine,he])]) (fun _ _ _=>rfl)).trans ?_
 split
 ·rfl
 ·rename_i e;have hr:=(jw hI (by simpa using e)).1;dsimp only;generalize (ù b [m,n]).1=B at hr ⊢;have hb:=K7 hr (Θ B m) (Θ B n)
  rw[wU,show((((Í B).length:Int)+1,æ B):Sys)=Og B from rfl,S8 hr.good hr.num,À,S8 hr.good hr.num,À,BG hr (Θ B n) (Θ B m),À,
   Õ (by omega) (by omega),BG hr (Θ B m) (Θ B n),À]
  unfold btR;rw[Int.zero_sub]
def ro (s l:Int×Int):Int:=if l.1≤s.1∧s.2≤l.2 then 1 else if s.2<l.1∨l.2<s.1 then 2 else 3
theorem Vf (s l:Int×Int):qV s l=some (ro s l):=by
 unfold qV Ek ro;simp only[Ě,ile,ilt,decide_eq_true_eq]
 by_cases h1:l.1≤s.1<;>by_cases h2:s.2≤l.2<;>by_cases h3:s.2<l.1<;>by_cases h4:l.2<s.1<;>simp[h1,h2,h3,h4]
def amA (b:â) (n l:Int×Int):Int×Int:=if (ù b [n]).2≠0 then(0,(ù b [n]).2) else if l.2<l.1 then(0,1) else(ro (ivR (ù b [n]).1 n) l,0)
theorem aoy {b:â} (hI:In b) (n l:Int×Int):II b n l=some (amA b n l):=by
 unfold II QR amA;rw[anw];refine(rB hI (ns:=[n]) (by simp) (fun e=>some ((0:Int),e)) (fun e he=>by rw[Ø (by simp[ine,he])]) (fun z he=>by rw[Ø (by simp[ine,he])]) (fun _ _ _=>rfl)).trans ?_
 split
 ·rfl
 ·rename_i e;have hr:=(jw hI (by simpa using e)).1;dsimp only
  by_cases hl:l.2<l.1
  ·rw[Ø (by simp[igt,hl]),if_pos hl]
  ·rw[Ô (by simp[igt]; omega),if_neg hl,wU,show((((Í (ù b [n]).1).length:Int)+1,æ (ù b [n]).1):Sys)=Og (ù b [n]).1 from rfl,wO hr,À,Vf,À]
def Tl (x y:List Int):List Int×List Int×Int:=if !mi x then([],[],1) else if !mi y then([],[],1) else(é x y,é y x,0)
def ad7 {x y:List Int} (hx:x.length≤100000) (hy:y.length≤100000):vt x y=some (Tl x y):=by
 unfold vt KI Tl;rw[Ik (by omega),À]
 cases mi x with
 |false=>rfl
 |true =>
  rw[Ik (by omega),À]
  cases mi y with
  |false=>rfl
  |true =>
   rw[tv (by omega) (by omega),À,tv (by omega) (by omega),À];rfl
def adg (ls:List (List Int)) (i:Nat):(ls.take i).flatten.length≤ls.flatten.length:=by
 conv=>rhs; rw[←List.take_append_drop i ls,fp,cW]
 omega
def qg {ls:List (List Int)} (hl:ls.length≤1000000) (hf:ls.flatten.length≤1000000):õ ls=some ls.flatten:=by
 have hk:∀n:Nat,n≤4000000→∀(f:Int→Option (List Int)),ck (n:Int) f=f n:=fun n h f=>Õ (by omega) (by omega) f
 have second:Î (fun(v9:(Val (.pair tI (.slice tI)))) kk12=>û ls (Û ls) v9.1 v9.2 (fun u10 u11=>kk12 (u10,u11)) (fun z8=>some z8)) ((0:Int),([]:List Int))=some ls.flatten:=by
  refine ô ls (fun i=>(ls.take i).flatten) (some ls.flatten) (f:=fun(v9:(Val (.pair tI (.slice tI)))) kk12=>û ls (Û ls) v9.1 v9.2 (fun u10 u11=>kk12 (u10,u11)) (fun z8=>some z8)) rfl (fun i x hi hx kn=>?_) (fun kn=>?_)
  ·try dsimp only
   unfold û;have h1:=adg ls (i+1);rw[take_succ hx,List.flatten_append,List.length_append] at h1;simp only[List.flatten_cons,List.flatten_nil,List.append_nil] at h1;rw[Ö hi,Ì hx,Ï hi (by omega),take_succ hx,List.flatten_append];have:î ((List.take i ls).flatten.length+x.length)=true:=Ú (by omega);rw[ĩ this];simp
  ·try dsimp only
   unfold û;rw[ã];simp
 unfold õ jm;refine Ĕ (fun x:Int×Int=>∃i:Nat,i≤ls.length∧x=(((ls.take i).flatten.length:Int),(i:Int))) (fun x=>ls.length-x.2.toNat) ?_ ⟨0,by omega,rfl⟩;rintro x ⟨i,hi,rfl⟩;rcases Nat.lt_or_ge i ls.length with h2|h2
 ·refine .inr ⟨(((ls.take (i+1)).flatten.length:Int),(i:Int)+1),⟨i+1,h2,by simp⟩,by simp; omega,fun kn=>?_⟩;obtain⟨x,hx⟩:∃x,ls[i]?=some x:=⟨_,cO h2⟩;have h1:=adg ls (i+1);rw[take_succ hx,fp,cW] at h1;simp only[fN,f8,dL] at h1
  try dsimp only
  unfold Ł;rw[Ö h2,Ì hx,ä]
  have e1:(((List.take i ls).flatten.length:Int)+(x.length:Int))=((List.take i ls).flatten.length+x.length:Nat):=by omega
  rw[e1,hk _ (by omega)]
  have:ilt ((((List.take i ls).flatten.length+x.length:Nat)):Int) 0=false:=by simp[ilt]; omega
  rw[Ô this,Ï h2 (by omega),take_succ hx];simp
 ·refine .inl fun kn=>?_
  obtain rfl:i=ls.length:=by omega
  try dsimp only
  unfold Ł;rw[ã,List.take_length];have e2:ilt ((ls.flatten.length:Nat):Int) 0=false:=decide_eq_false (by omega);dsimp only;rw[Ô e2,Int.sub_zero,hk _ (by omega)];rcases Nat.eq_zero_or_pos ls.flatten.length with h0|h0
  ·have:igt (ls.flatten.length:Int) 0=false:=decide_eq_false (by omega);rw[Ô this];exact second
  ·have:igt (ls.flatten.length:Int) 0=true:=decide_eq_true (by omega);rw[Ø this]
   have:((ilt (0:Int) (ls.flatten.length:Int))&&(î (Int.toNat (ls.flatten.length:Int))))=true:=by
    rw[dk,Ú (by omega),gO];exact decide_eq_true (by omega)
   rw[ĩ this];have:ile 0 (ĉ (List.replicate (Int.toNat (ls.flatten.length:Int)) (0:Int)))=true:=decide_eq_true (Int.natCast_nonneg _);rw[ĩ this];exact second
def onP (day:Int) (ids:List Int):List (Int×Int):=ids.map fun id=>(id,day)
def ajM {day:Int} {ls:List (List Int)} (hl:ls.length≤1000000) (hf:ls.flatten.length≤1000000):IG day ls=some (onP day ls.flatten):=by
 unfold IG QG;rw[qg hl hf,À];refine ô ls.flatten (fun i=>onP day (ls.flatten.take i)) _ rfl (fun i x hi hx kn=>?_) (fun kn=>?_)
 ·try dsimp only
  unfold rY;rw[Ö hi,Ì hx,Ï hi (by omega),take_succ hx];have:î (List.length (onP day (ls.flatten.take i))+List.length ([(x,day)]))=true:=Ú (by simp[onP]; omega);rw[ĩ this];simp[onP]
 ·try dsimp only
  unfold rY;rw[ã,List.take_length]
def amX {l:List Int} (hl:l.length≤100000) (m:Int):OG l m=some (mi l&&decide ((l.length:Int)≤m)):=by
 unfold OG Ys;rw[ad7 hl (by simp),À]
 have e0:mi []=true:=by decide
 unfold Tl;rw[e0,ä]
 cases mi l<;>rfl
def ao5 (n:Int):IH n=some (Jd n):=by
 unfold IH QK Jd inP;rw[Ě]
 by_cases h:0≤n
 ·rw[if_pos (by simpa[ige] using h)]; simp[h]
 ·rw[if_neg (by simpa[ige] using h)]; simp[h]
def ahh {ρ α:Type} (l:List α) (i:Int) (f:α→Option ρ):ë ((ile (0:Int) i)&&(ilt i (ĉ l))) (Ĺ l (Int.toNat i) f)=ā l i f:=by
 unfold ā
 by_cases h0:0≤i
 ·by_cases h1:i<l.length
  ·have e:((ile (0:Int) i)&&(ilt i (ĉ l)))=true:=by simp[ile,ilt,h0,h1]
   rw[ĩ e];simp only[h0,decide_true];unfold Ĺ;rfl
  ·have e:((ile (0:Int) i)&&(ilt i (ĉ l)))=false:=by simp[ile,ilt,h1]
   rw[e];simp only[h0,decide_true];rw[fW (by omega)];rfl
 ·have e:((ile (0:Int) i)&&(ilt i (ĉ l)))=false:=by simp[ile,ilt,h0]
  rw[e];simp only[h0,decide_false];rfl
def ape {ρ:Type} (ns:List (Int×Int)) (n:Int):@we ρ ns n=@Č ρ n ns:=by
 funext v0 v1 v2 v3 v4 v5 v6 v7 kn k0 k1;unfold we Č;rw[ahh]
def agA (B:â) (ns:List (Int×Int)) (s:Int×Int):Int×Int:=ns.foldl (fun s n=>(s.1+(ivR B n).1,s.2+(ivR B n).2)) s
def pileR (B:â) (f:Int×Int) (ns:List (Int×Int)):Int×Int:=agA B ns (((ns.length:Int)-1)*f.1,((ns.length:Int)-1)*f.2)
def ap2 (b:â) (day:Int) (ids:List Int):(Int×Int)×Int :=
 if è b≠0 then((0,0),è b) else if ids.length=0∨mi ids=false∨Jd day=false then((0,0),1) else
 if (ù b (onP day ids)).2≠0 then((0,0),(ù b (onP day ids)).2) else(pileR (ù b (onP day ids)).1 b.1 (onP day ids),0)
def ael (B:â) (x y:List (Int×Int)) (s:Int×Int):agA B (x++y) s=agA B y (agA B x s):=by unfold agA; rw[List.foldl_append]
def ajI {B:â} (h:aop B):∀(ns:List (Int×Int)) (s:Int×Int) (m:Int),-m≤s.1∧s.1≤m→-m≤s.2∧s.2≤m →
 (-(m+ns.length*9007199254740992)≤(agA B ns s).1∧(agA B ns s).1≤m+ns.length*9007199254740992)∧(-(m+ns.length*9007199254740992)≤(agA B ns s).2∧(agA B ns s).2≤m+ns.length*9007199254740992)
 |[],s,m,h1,h2=>by unfold agA; simp; omega
 |n::t,s,m,h1,h2=>by
  have b1:=K7 h (Θ B n) (iq B);have b2:=K7 h (iq B) (Θ B n);have:=ajI h t (s.1+(ivR B n).1,s.2+(ivR B n).2) (m+9007199254740992) (by unfold ivR; dsimp only; omega) (by unfold ivR; dsimp only; omega);show(-(m+((n::t).length:Nat)*9007199254740992)≤(agA B t _).1∧_)∧_;unfold agA at this ⊢;simp only[List.foldl_cons,List.length_cons];push_cast;omega
def ap1 {b:â} (hI:In b) (day:Int) {ids:List Int} (hl:ids.length≤1000):OH b day ids=some (ap2 b day ids):=by
 unfold OH YG ap2;rw[jp hI.size hI.num,À,amX (by omega),À,ao5,À,ä]
 by_cases hc:è b=0
 ·rw[Ô (by simp[ine,hc]),if_neg (show ¬(è b≠0) from fun h=>h hc)]
  by_cases h0:ids.length=0
  ·rw[Ø (by simp[ieq,h0]),if_pos (.inl h0)]
  ·rw[Ô (beq_eq_false_iff_ne.2 (by omega))]
   by_cases h1:mi ids=true
   ·have hp:=(Fs ids).1 h1
    have e1:(mi ids&&decide ((ids.length:Int)≤6))=true:=by rw[h1]; simp; omega
    rw[e1,Ô (by rfl)]
    by_cases h2:Jd day=true
    ·have hg:=(ó b).1 hc;rw[Ô (by rw[h2]; rfl),if_neg (by simp[h0,h1,h2]),ajM (by simp) (by simp; omega),À]
     have hlen:(onP day ids).length=ids.length:=by simp[onP]
     rw[show([ids]:List (List Int)).flatten=ids by simp,ape,←jp hI.size hI.num];refine(rB hI (ns:=onP day ids) (by omega) (fun e=>some (((0,0):Int×Int),e)) (fun e he=>by rw[Ø (by simp[ine,he])]) (fun z he=>by rw[Ø (by simp[ine,he])]) (fun _ _ _=>rfl)).trans ?_
     split
     ·rfl
     ·rename_i e;have hr:=(jw hI (by simpa using e)).1;have hf:=hg.film;dsimp only;generalize (ù b (onP day ids)).1=B at hr ⊢
      have hm:∀x:Int,0≤x→x≤1000000→0≤((ids.length:Int)-1)*x∧((ids.length:Int)-1)*x≤10000000:=by
       intro x h0 h1;have:((ids.length:Int)-1)*x≤5*1000000:=fj (by omega) h1 h0 (by omega);exact⟨fE (by omega) h0,by omega⟩
      have m1:=hm b.1.1 (by omega) (by omega);have m2:=hm b.1.2 (by omega) (by omega);rw[Õ (by omega) (by omega),Õ (by omega) (by omega),Õ (by omega) (by omega),wU,show((((Í B).length:Int)+1,æ B):Sys)=Og B from rfl];unfold pileR;rw[hlen];refine ô (onP day ids) (fun i=>agA B ((onP day ids).take i) (((ids.length:Int)-1)*b.1.1,((ids.length:Int)-1)*b.1.2)) _ rfl (fun i n hi hn kn=>?_) (fun kn=>?_)
      ·try dsimp only
       unfold wd;have b1:=K7 hr (Θ B n) (iq B);have b2:=K7 hr (iq B) (Θ B n);have bs:=ajI hr ((onP day ids).take i) (((ids.length:Int)-1)*b.1.1,((ids.length:Int)-1)*b.1.2) 10000000 (by dsimp only; omega) (by dsimp only; omega)
       have bl:(((onP day ids).take i).length:Int)≤6:=by rw[dj]; omega
       rw[Ö hi,Ì hn,wO hr,À,take_succ hn,ael];generalize agA B ((onP day ids).take i) (((ids.length:Int)-1)*b.1.1,((ids.length:Int)-1)*b.1.2)=s at bs ⊢;unfold ivR;dsimp only;rw[Õ (by omega) (by omega),Õ (by omega) (by omega),Ï hi (by omega)];rfl
      ·try dsimp only
       unfold wd;rw[ã,List.take_length]
    ·have h2':Jd day=false:=by simpa using h2
     rw[h2',Ø (by rfl),if_pos (.inr (.inr rfl))]
   ·have h1':mi ids=false:=by simpa using h1
    rw[h1',Ø (by rfl),if_pos (.inr (.inl rfl))]
 ·rw[Ø (by simp[ine,hc]),if_pos hc]
def qQ {α:Type} (p:α→Bool) (l:List α) (i:Nat):((l.take i).filter p).length≤l.length:=by
 have h1:=dJ p (l.take i);rw[dj] at h1;omega
def VL (x y:Int) (g:Bool):∀m:List (Int×Bool),t7 (k:=tI) (v:=.bool) x (On (k:=tI) (v:=.bool) y g m)=if x=y then some g else t7 (k:=tI) (v:=.bool) x m
 |[]=>by
  unfold On t7 kR t7
  by_cases h:x=y<;>simp[h]
 |e::m=>by
  unfold On
  by_cases h:y=e.1
  ·have:kR tI y e.1=true:=by simp[kR,h]
   rw[this]
   try dsimp only
   unfold t7 kR
   by_cases h2:x=y
   ·simp[h2]
   ·have:¬x=e.1:=fun h3=>h2 (h3.trans h.symm);simp[h2,this]
  ·have:kR tI y e.1=false:=by simp[kR,h]
   rw[this]
   try dsimp only
   have ih:=VL x y g m;unfold t7
   by_cases h2:x=e.1
   ·have:kR tI x e.1=true:=by simp[kR,h2]
    rw[this];have:¬x=y:=fun h3=>h (h3.symm.trans h2);simp[this]
   ·have:kR tI x e.1=false:=by simp[kR,h2]
    rw[this];exact ih
def Tr (l:List Int):List (Int×Bool):=l.foldl (fun m x=>On (k:=tI) (v:=.bool) x true m) []
def yl (l:List Int) (x:Int):Tr (l++[x])=On (k:=tI) (v:=.bool) x true (Tr l):=by unfold Tr; rw[List.foldl_append]; rfl
def abr (x:Int):∀(l:List Int) (m:List (Int×Bool)),t7 (k:=tI) (v:=.bool) x (l.foldl (fun m x=>On (k:=tI) (v:=.bool) x true m) m)=if l.contains x then some true else t7 (k:=tI) (v:=.bool) x m
 |[],m=>by simp
 |y::l,m=>by
  rw[fL,abr x l,VL]
  by_cases h:x=y
  ·subst h; simp
  ·simp[h]
def abp (l:List Int) (x:Int):t7 (k:=tI) (v:=.bool) x (Tr l)=if l.contains x then some true else none:=abr x l []
def Fe (b:â) (s:Int×Int):List Int:=if s.1=3 then(match b.2.2.2.2.1[s.2.toNat]? with|some c=>c.2.2.1++c.2.2.2.1|none=>[]) else(match b.2.1[s.2.toNat]? with|some g=>[g.1]|none=>[])
def SF (b:â) (ss looks:List (Int×Int)):List Int:=ss.flatMap (Fe b)++looks.map fun n=>n.1
def IX (ss:List (Int×Int)):List Int:=(ss.filter fun s=>s.1==3).map fun s=>s.2
def EP (w:List Int):Nat→List Cmp→List Cmp
 |_,[]=>[]
 |i,c::t=>if w.contains (i:Int) then c::EP w (i+1) t else EP w (i+1) t
def cutP (b:â) (ss looks:List (Int×Int)):â :=
 (b.1,b.2.1.filter fun g=>(SF b ss looks).contains g.1,b.2.2.1.filter fun u=>(SF b ss looks).contains u.1,b.2.2.2.1.filter fun l=>(SF b ss looks).contains l.1,EP (IX ss) 0 b.2.2.2.2.1,looks)
def apX (b:â) (s:Int×Int):Prop:=((s.1=1∨s.1=2)∧0≤s.2∧s.2<b.2.1.length)∨(s.1=3∧0≤s.2∧s.2<b.2.2.2.2.1.length)
def Wi (w:List Int) (c:Cmp):∀(l:List Cmp) (i:Nat),EP w i (l++[c])=EP w i l++if w.contains ((i+l.length:Nat):Int) then[c] else[]
 |[],i=>by simp only[gg,EP,dt,fJ]
 |a::l,i=>by
  have e:((i+1+l.length:Nat):Int)=((i+(l.length+1):Nat):Int):=by congr 1; omega
  simp only[eP,EP,Wi w c l (i+1),df,e]
  split<;>rfl
def RV (w:List Int):∀(l:List Cmp) (i:Nat),(EP w i l).length≤l.length
 |[],i=>by simp[EP]
 |a::l,i=>by
  have:=RV w l (i+1);simp only[EP]
  split<;>simp only[df]<;>omega
def Aj {ρ:Type} (x:Int) (l:List Int) (f:Bool→Option ρ) (g:Option ρ):aah (k:=tI) (v:=.bool) x (Tr l) f g=if l.contains x then f true else g:=by
 unfold aah;rw[abp]
 by_cases h:l.contains x=true
 ·rw[if_pos h,if_pos h]
 ·rw[if_neg h,if_neg h]
section
variable {ρ:Type}
def cut_L3 (l:List (Int×Int)) (hl:l.length≤1000) (ids:List Int) (K:List (Int×Int)→Option ρ):Î (fun(v47:(Val (.pair tI (.slice Ä)))) kk50=>ut l (Û l) (Tr ids) v47.1 v47.2 (fun u48 u49=>kk50 (u48,u49)) K) ((0:Int),[])=K (l.filter fun u=>ids.contains u.1):=by
 refine ô l (fun i=>(l.take i).filter fun u=>ids.contains u.1) _ rfl (fun i a hi ha kn=>?_) (fun kn=>?_)
 ·try dsimp only
  unfold ut;have h1:=qQ (fun u:Int×Int=>ids.contains u.1) l i;rw[Ö hi,Ì ha,Aj,take_succ ha,List.filter_append]
  by_cases h:ids.contains a.1=true
  ·rw[if_pos h,Ŋ,ĩ (Ú (by simp only[dE]; omega)),Ï hi (by omega)];simp only[dV,d8,h,if_pos]
  ·rw[if_neg h,Ï hi (by omega)];simp only[dV,d8,h,if_neg,dv,not_false_eq_true,dL]
 ·try dsimp only
  unfold ut;rw[ã,List.take_length]
def cut_L4 (l:List Lp) (hl:l.length≤1000) (ids:List Int) (K:List Lp→Option ρ):Î (fun(v47:(Val (.pair tI (.slice ő)))) kk50=>ur l (Û l) (Tr ids) v47.1 v47.2 (fun u48 u49=>kk50 (u48,u49)) K) ((0:Int),[])=K (l.filter fun u=>ids.contains u.1):=by
 refine ô l (fun i=>(l.take i).filter fun u=>ids.contains u.1) _ rfl (fun i a hi ha kn=>?_) (fun kn=>?_)
 ·try dsimp only
  unfold ur;have h1:=qQ (fun u:Lp=>ids.contains u.1) l i;rw[Ö hi,Ì ha,Aj,take_succ ha,List.filter_append]
  by_cases h:ids.contains a.1=true
  ·rw[if_pos h,Ŋ,ĩ (Ú (by simp only[dE]; omega)),Ï hi (by omega)];simp only[dV,d8,h,if_pos]
  ·rw[if_neg h,Ï hi (by omega)];simp only[dV,d8,h,if_neg,dv,not_false_eq_true,dL]
 ·try dsimp only
  unfold ur;rw[ã,List.take_length]
def cut_L5 (l:List Cmp) (hl:l.length≤1000) (hp:∀c∈l,c.2.2.1.length≤1000∧c.2.2.2.1.length≤1000) (w:List Int) (K:List Cmp→Option ρ):Î (fun(v47:(Val (.pair tI (.slice Ê)))) kk50=>uq l (Û l) (Tr w) v47.1 v47.2 (fun u48 u49=>kk50 (u48,u49)) K) ((0:Int),[])=K (EP w 0 l):=by
 refine ô l (fun i=>EP w 0 (l.take i)) _ rfl (fun i a hi ha kn=>?_) (fun kn=>?_)
 ·try dsimp only
  unfold uq;have h1:=RV w (l.take i) 0;have h2:=hp a (List.mem_of_getElem? ha)
  have e:(l.take i).length=i:=by rw[dj]; omega
  rw[Ö hi,Ì ha,Aj,take_succ ha,Wi,e,du]
  by_cases h:w.contains (i:Int)=true
  ·rw[if_pos h,if_pos h,Ŋ,ĩ (Ú (by omega)),ĩ (Ú (by omega)),ĩ (Ú (by simp only[dE]; omega)),Ï hi (by omega)]
  ·rw[if_neg h,if_neg h,Ï hi (by omega)];simp only[dL]
 ·try dsimp only
  unfold uq;rw[ã,List.take_length]
def cut_L2 (looks:List (Int×Int)) (hl:looks.length≤1000) (ids:List Int) (K:List (Int×Bool)→Option ρ):Î (fun(v51:(Val (.pair tI (.map tI .bool)))) kk54=>uw looks (Û looks) v51.1 v51.2 (fun u52 u53=>kk54 (u52,u53)) K) ((0:Int),Tr ids)=K (Tr (ids++looks.map fun n=>n.1)):=by
 refine ô looks (fun i=>Tr (ids++(looks.take i).map fun n=>n.1)) _ (by simp) (fun i a hi ha kn=>?_) (fun kn=>?_)
 ·try dsimp only
  unfold uw;rw[Ö hi,Ì ha,Ï hi (by omega),take_succ ha,List.map_append,←List.append_assoc,List.map_singleton,yl]
 ·try dsimp only
  unfold uw;rw[ã,List.take_length]
def cut_L1 (xs:List Int) (hl:xs.length≤10000) (ids:List Int) (K:List (Int×Bool)→Option ρ):Î (fun(v13:(Val (.pair tI (.map tI .bool)))) kk16=>uz xs (Û xs) v13.1 v13.2 (fun u14 u15=>kk16 (u14,u15)) K) ((0:Int),Tr ids)=K (Tr (ids++xs)):=by
 refine ô xs (fun i=>Tr (ids++xs.take i)) _ (by simp) (fun i a hi ha kn=>?_) (fun kn=>?_)
 ·try dsimp only
  unfold uz;rw[Ö hi,Ì ha,Ï hi (by omega),take_succ ha,←List.append_assoc,yl]
 ·try dsimp only
  unfold uz;rw[ã,List.take_length]
end
def iC {ρ α:Type} {l:List α} {i:Int} (h0:0≤i) {a:α} (h:l[i.toNat]?=some a) (f:α→Option ρ):ā l i f=f a:=by
 obtain⟨n,rfl⟩:=gM h0;exact Ì (by simpa using h) f
def cut_ok {b:â} (hs:Ž b) {ss looks:List (Int×Int)} (h1:ss.length≤1000) (h2:looks.length≤1000) (hv:∀s∈ss,apX b s):Ss b ss looks=some (cutP b ss looks):=by
 have g1:=hs.gauges; have g2:=hs.uses; have g3:=hs.loans; have g4:=hs.compares; have g5:=hs.looks;unfold Ss akC GW;refine ô ss (fun i=>(Tr ((ss.take i).flatMap (Fe b)),Tr (IX (ss.take i)))) _ rfl (fun i s hi ha kn=>?_) (fun kn=>?_)
 ·try dsimp only
  unfold A7;have hok:=hv s (List.mem_of_getElem? ha);rw[Ö hi,Ì ha,take_succ ha,List.flatMap_append]
  have e3:IX (ss.take i++[s])=IX (ss.take i)++if s.1=3 then[s.2] else[]:=by
   unfold IX;rw[List.filter_append,List.map_append];congr 1
   by_cases h:s.1=3<;>simp[h]
  rw[e3];rcases hok with⟨hk,h0,h3⟩|⟨hk,h0,h3⟩
  ·have hg:b.2.1[s.2.toNat]?=some b.2.1[s.2.toNat]:=cO (by omega);generalize b.2.1[s.2.toNat]=g at hg
   have e1:Fe b s=[g.1]:=by
    unfold Fe;rw[if_neg (by omega),hg]
   have e2:List.flatMap (Fe b) [s]=[g.1]:=by simp[e1]
   rw[Ô (decide_eq_false (by omega)),if_neg (by omega),dL,e2,yl];rcases hk with hk|hk
   ·rw[Ø (decide_eq_true hk),iC h0 hg,Ï hi (by omega)]
   ·rw[Ô (decide_eq_false (by omega)),Ø (decide_eq_true hk),iC h0 hg,Ï hi (by omega)]
  ·have hc:b.2.2.2.2.1[s.2.toNat]?=some b.2.2.2.2.1[s.2.toNat]:=cO (by omega);have hp:=hs.piles b.2.2.2.2.1[s.2.toNat] (eO _);generalize b.2.2.2.2.1[s.2.toNat]=c at hc hp
   have e1:Fe b s=c.2.2.1++c.2.2.2.1:=by
    unfold Fe;rw[if_pos hk,hc]
   have e2:List.flatMap (Fe b) [s]=c.2.2.1++c.2.2.2.1:=by simp[e1]
   rw[Ô (decide_eq_false (by omega)),Ô (decide_eq_false (by omega)),Ô (decide_eq_false (by omega)),ĩ (decide_eq_true hk),if_pos hk,e2,iC h0 hc,iC h0 hc,qg (by simp) (by simp; omega),À];rw[show([c.2.2.1,c.2.2.2.1]:List (List Int)).flatten=c.2.2.1++c.2.2.2.1 by simp];refine(cut_L1 (c.2.2.1++c.2.2.2.1) (by simp; omega) _ _).trans ?_;rw[yl,Ï hi (by omega)]
 ·try dsimp only
  unfold A7;rw[ã];dsimp only;rw[List.take_length];refine(cut_L2 looks h2 _ _).trans ?_;rw[show(ss.flatMap (Fe b)++looks.map fun n=>n.1)=SF b ss looks from rfl];unfold Bh
  try dsimp only
  rw[ĩ (Ú (by omega)),À]
  have ek:(List.filter (fun g=>(t7 (k:=tI) (v:=.bool) g.1 (Tr (SF b ss looks))).getD false) b.2.1)=b.2.1.filter fun g=>(SF b ss looks).contains g.1:=by
   refine List.filter_congr fun g _=>?_;rw[abp]
   cases(SF b ss looks).contains g.1<;>rfl
  rw[ek];unfold oa;dsimp only;refine(cut_L3 b.2.2.1 g2 _ _).trans ?_;refine(cut_L4 b.2.2.2.1 g3 _ _).trans ?_;refine(cut_L5 b.2.2.2.2.1 g4 hs.piles _ _).trans ?_;rfl
def ajT {α:Type} [DecidableEq α] {l m:List α} (hl:l.length=m.length) (h:Ľ (fun i a=>if m[i]?=some a then none else some false) 0 l=none):l=m:=by
 have:=iX.1 h;refine List.ext_getElem hl fun i h1 h2=>?_;have h3:=this i l[i] (cO h1);rw[du] at h3
 split at h3
 ·rename_i h4;rw[cO h2] at h4;exact(Option.some.inj h4).symm
 ·cases h3
def ajS {α:Type} [DecidableEq α] {l m:List α} {b:Bool} (h:Ľ (fun i a=>if m[i]?=some a then none else some false) 0 l=some b):b=false∧l≠m:=by
 constructor
 ·have:∀(k:Nat) (x:List α) (b:Bool),Ľ (fun i a=>if m[i]?=some a then none else some false) k x=some b→b=false:=by
   intro k x
   induction x generalizing k with
   |nil=>intro b h; cases h
   |cons a t ih =>
    intro b h;unfold Ľ at h
    split at h
    ·rename_i c hc
     split at hc
     ·cases hc
     ·cases hc; cases h; rfl
    ·exact ih _ _ h
  exact this _ _ _ h
 ·intro e;subst e;rw[iX.2 fun j a ha=>by rw[du,if_pos ha]] at h;cases h
instance dec1:DecidableEq ((Int×Int)×Int):=fun a b=>instDecidableEqProd a b
instance dec2:DecidableEq ((Int×Int)×((Int×Int)×Int)):=fun a b=>instDecidableEqProd a b
instance dec3:DecidableEq (Int×(Int×Int)×((Int×Int)×Int)):=fun a b=>instDecidableEqProd a b
instance dec4:DecidableEq (Int×Int×(Int×Int)×((Int×Int)×Int)):=fun a b=>instDecidableEqProd a b
instance decG:DecidableEq ñ:=fun a b=>instDecidableEqProd a b
instance decL:DecidableEq Lp:=fun a b=>instDecidableEqProd a b
instance decI4:DecidableEq (Int×(Int×(Int×Int))):=fun a b=>instDecidableEqProd a b
instance decI5:DecidableEq (List Int×Int×(Int×(Int×Int))):=fun a b=>instDecidableEqProd a b
instance decI6:DecidableEq (List Int×List Int×Int×(Int×(Int×Int))):=fun a b=>instDecidableEqProd a b
instance decI7:DecidableEq (Int×List Int×List Int×Int×(Int×(Int×Int))):=fun a b=>instDecidableEqProd a b
instance decC:DecidableEq Cmp:=fun a b=>instDecidableEqProd a b
def XC {α:Type} [DecidableEq α] (x:α) (l:List α):Bool:=l.any fun a=>decide (x=a)
def ag5 {α:Type} [DecidableEq α] {x:α} {l:List α}:XC x l=true↔x∈l:=by
 unfold XC;rw[List.any_eq_true];exact⟨fun⟨a,h1,h2⟩=>by rw[of_decide_eq_true h2]; exact h1,fun h=>⟨x,h,decide_eq_true rfl⟩⟩
def aeL {α:Type} [DecidableEq α] (l:List α) (x:α):ige (match l.findIdx? (fun a=>decide (x=a)) with|some j=>(j:Int)|none=>-1) 0=XC x l:=by
 cases h:l.findIdx? (fun a=>decide (x=a)) with
 |none =>
  have:XC x l=false:=by
   cases hm:XC x l with
   |false=>rfl
   |true=>have:=dT.1 h x (ag5.1 hm); simp at this
  rw[this];rfl
 |some j =>
  obtain⟨hj,hp,_⟩:=dA.1 h
  have:x∈l:=by rw[of_decide_eq_true hp]; exact eO _
  rw[ag5.2 this];exact decide_eq_true (by dsimp only; omega)
def akx {ρ:Type} (o:Option Nat) (f:Int→Option ρ):(match o with|some j=>f (j:Int)|none=>f (-1))=f (match o with|some j=>(j:Int)|none=>-1):=by cases o<;>rfl
def ad5 {l:List (Int×Int)} (hl:l.length≤1000000) (x:Int×Int):ġ l x=some (XC x l):=by
 unfold ġ Ÿ gY υ
 have e:Î (fun(v5:Int) kk7=>ğ l (Û l) x.1 x.2 v5 (fun u6=>kk7 u6) (fun z3=>some z3) (fun _=>some (-1:Int))) (0:Int)=some (match l.findIdx? (fun a=>decide (x=a)) with|some j=>(j:Int)|none=>-1):=by
  refine(iA l (fun a=>decide (x=a)) (fun z=>some z) (some (-1)) (fun i a hi ha kn=>?_) (fun kn=>?_)).trans (akx _ some)
  ·try dsimp only
   unfold ğ
   have e:((Ŏ x.1 a.1)&&((Ŏ x.2 a.2)&&true))=decide (x=a):=by
    rw[dO]; simp[Ŏ,gS]
   rw[Ö hi,Ì ha,Ï hi (by omega),Ě,e]
  ·try dsimp only
   unfold ğ;rw[ã]
 rw[e,À];exact congrArg some (aeL l x)
def aae {l:List Lp} (hl:l.length≤1000000) (x:Lp):đ l x=some (XC x l):=by
 unfold đ Š Ι Ζ
 have e:Î (fun(v5:Int) kk7=>Đ l (Û l) x.1 x.2.1.1 x.2.1.2 x.2.2 v5 (fun u6=>kk7 u6) (fun z3=>some z3) (fun _=>some (-1:Int))) (0:Int)=some (match l.findIdx? (fun a=>decide (x=a)) with|some j=>(j:Int)|none=>-1):=by
  refine(iA l (fun a=>decide (x=a)) (fun z=>some z) (some (-1)) (fun i a hi ha kn=>?_) (fun kn=>?_)).trans (akx _ some)
  ·try dsimp only
   unfold Đ
   have e:((Ŏ x.1 a.1)&&((Ŏ x.2.1.1 a.2.1.1)&&((Ŏ x.2.1.2 a.2.1.2)&&((Ŏ x.2.2 a.2.2)&&true))))=decide (x=a):=by
    rw[dO]; simp[Ŏ,gS,and_assoc]
   rw[Ö hi,Ì ha,Ï hi (by omega),Ě,e]
  ·try dsimp only
   unfold Đ;rw[ã]
 rw[e,À];exact congrArg some (aeL l x)
def ad6 {l:List ñ} (hl:l.length≤1000000) (x:ñ):Ħ l x=some (XC x l):=by
 unfold Ħ ŏ Ų ű
 have e:Î (fun(v5:Int) kk7=>Ĉ l (Û l) x.1 x.2.1 x.2.2.1 x.2.2.2.1.1 x.2.2.2.1.2 x.2.2.2.2.1.1 x.2.2.2.2.1.2 x.2.2.2.2.2 v5 (fun u6=>kk7 u6) (fun z3=>some z3) (fun _=>some (-1:Int))) (0:Int)=some (match l.findIdx? (fun a=>decide (x=a)) with|some j=>(j:Int)|none=>-1):=by
  refine(iA l (fun a=>decide (x=a)) (fun z=>some z) (some (-1)) (fun i a hi ha kn=>?_) (fun kn=>?_)).trans (akx _ some)
  ·try dsimp only
   unfold Ĉ
   have e:((Ŏ x.1 a.1)&&((Ŏ x.2.1 a.2.1)&&((Ŏ x.2.2.1 a.2.2.1)&&((Ŏ x.2.2.2.1.1 a.2.2.2.1.1)&&((Ŏ x.2.2.2.1.2 a.2.2.2.1.2)&&((Ŏ x.2.2.2.2.1.1 a.2.2.2.2.1.1)&&((Ŏ x.2.2.2.2.1.2 a.2.2.2.2.1.2)&&((Ŏ x.2.2.2.2.2 a.2.2.2.2.2)&&true))))))))=decide (x=a):=by
    rw[dO]; simp[Ŏ,gS,and_assoc]
   rw[Ö hi,Ì ha,Ï hi (by omega),Ě,e]
  ·try dsimp only
   unfold Ĉ;rw[ã]
 rw[e,À];exact congrArg some (aeL l x)
def ak4 (b:â):List Int:=b.2.1.map fun g=>g.1
def mz {α:Type} [DecidableEq α] (x y:List α) (w:α→Bool):Bool:=x.all fun a=>!w a||XC a y
def anf (s b:â):Bool :=
 mz s.2.2.2.2.1 b.2.2.2.2.1 (fun _=>true)&&(decide (s.1=b.1)&&(mz s.2.1 b.2.1 (fun _=>true)&&(mz s.2.2.1 b.2.2.1 (fun u=>(ak4 s).contains u.1)&&(mz b.2.2.1 s.2.2.1 (fun u=>(ak4 s).contains u.1) &&
  (mz s.2.2.2.1 b.2.2.2.1 (fun u=>(ak4 s).contains u.1)&&mz b.2.2.2.1 s.2.2.2.1 (fun u=>(ak4 s).contains u.1))))))
section
variable {ρ:Type}
def Lj {α:Type} [DecidableEq α] (x y:List α) (w:α→Bool) (X Y KF:Option ρ) {f:Int→(Int→Option ρ)→Option ρ}
 (h:∀(i:Nat) (a:α),i<x.length→x[i]?=some a→∀kn,f i kn=if !(!w a||XC a y) then(ifb (!(ige (i:Int) 0)) X KF) else kn ((i:Int)+1))
 (hn:∀kn,f x.length kn=Y):Î f 0=if mz x y w then Y else KF:=by
 refine(Ń x (fun a=>!(!w a||XC a y)) (fun z=>ifb (!(ige z 0)) X KF) KF Y (fun j=>by rw[show ige (j:Int) 0=true from decide_eq_true (by omega)]; rfl) h hn).trans ?_;unfold mz;rw[List.all_eq_not_any_not]
 cases x.any fun a=>!(!w a||XC a y)<;>rfl
def aph:@vV ρ=@mU ρ:=rfl
def Wf {x y:List Int} (hl:x.length=y.length) (hx:x.length≤1000000) (k0:Bool→Option ρ) (K:Option ρ) :
 Î (fun(v30:Int) kk32=>mU x y (Û x) v30 (fun u31=>kk32 u31) k0 (fun _=>K)) (0:Int)=if x=y then K else k0 false:=by
 refine(kZ x (fun i a=>if y[i]?=some a then none else some false) k0 K (fun i a hi ha kn=>?_) (fun kn=>?_)).trans ?_
 ·try dsimp only
  unfold mU;have hm:y[i]?=some y[i]:=List.getElem?_eq_getElem (by omega);rw[Ö hi,Ì ha,Ì hm,Ï hi (by omega),hm,Ě]
  by_cases h:a=y[i]
  ·simp[ine,h]
  ·have h':¬y[i]=a:=fun e=>h e.symm;simp[ine,h,h']
 ·try dsimp only
  unfold mU;rw[ã]
 ·cases h:Ľ (fun i a=>if y[i]?=some a then none else some false) 0 x with
  |none=>rw[if_pos (ajT hl h)]
  |some b =>
   obtain⟨h1,h2⟩:=ajS h;rw[if_neg h2,h1]
def ajU {l:List Cmp} (hl:l.length≤1000) (c:Cmp) (hA:c.2.2.1.length≤1000) (hB:c.2.2.2.1.length≤1000) (k0:Int→Option ρ) (K1 KF:Option ρ) (hk:∀j:Nat,k0 (j:Int)=K1) :
 Î (fun(v41:Int) kk43=>qD l (Û l) c.1 c.2.1 c.2.2.1 c.2.2.2.1 c.2.2.2.2.1 c.2.2.2.2.2.1 c.2.2.2.2.2.2.1 c.2.2.2.2.2.2.2 v41 (fun u42=>kk43 u42) k0 (fun _=>KF)) (0:Int)=if XC c l then K1 else KF:=by
 refine(Ń l (fun d=>decide (c=d)) k0 K1 KF hk (fun i d hi hd kn=>?_) (fun kn=>?_)).trans rfl
 ·try dsimp only
  unfold qD
  have hsplit:(c=d)↔(c.1=d.1∧c.2.1=d.2.1∧c.2.2.2.2.1=d.2.2.2.2.1∧c.2.2.2.2.2.1=d.2.2.2.2.2.1∧(c.2.2.2.2.2.2.1=d.2.2.2.2.2.2.1∧c.2.2.2.2.2.2.2=d.2.2.2.2.2.2.2)∧c.2.2.1=d.2.2.1∧c.2.2.2.1=d.2.2.2.1):=by
   simp only[gS];constructor
   ·rintro⟨a1,a2,a3,a4,a5,a6,a7,a8⟩; exact⟨a1,a2,a5,a6,⟨a7,a8⟩,a3,a4⟩
   ·rintro⟨a1,a2,a5,a6,⟨a7,a8⟩,a3,a4⟩; exact⟨a1,a2,a3,a4,a5,a6,a7,a8⟩
  have hno:∀{P:Prop},¬P→(c=d→P)→(if decide (c=d)=true then k0 (i:Int) else kn ((i:Int)+1))=kn ((i:Int)+1):=fun h1 h2=>by
   rw[if_neg];intro h;exact h1 (h2 (of_decide_eq_true h))
  rw[Ö hi,Ì hd,Ï hi (by omega)]
  by_cases a1:c.1=d.1
  case neg=>rw[hno a1 (fun e=>(hsplit.1 e).1),Ô (beq_eq_false_iff_ne.2 a1)]
  rw[Ø (beq_iff_eq.2 a1)]
  by_cases a2:c.2.1=d.2.1
  case neg=>rw[hno a2 (fun e=>(hsplit.1 e).2.1),Ô (beq_eq_false_iff_ne.2 a2)]
  rw[Ø (beq_iff_eq.2 a2)]
  by_cases a3:c.2.2.2.2.1=d.2.2.2.2.1
  case neg=>rw[hno a3 (fun e=>(hsplit.1 e).2.2.1),Ô (beq_eq_false_iff_ne.2 a3)]
  rw[Ø (beq_iff_eq.2 a3)]
  by_cases a4:c.2.2.2.2.2.1=d.2.2.2.2.2.1
  case neg=>rw[hno a4 (fun e=>(hsplit.1 e).2.2.2.1),Ô (beq_eq_false_iff_ne.2 a4)]
  rw[Ø (beq_iff_eq.2 a4)]
  by_cases a5:c.2.2.2.2.2.2.1=d.2.2.2.2.2.2.1∧c.2.2.2.2.2.2.2=d.2.2.2.2.2.2.2
  case neg=>rw[hno a5 (fun e=>(hsplit.1 e).2.2.2.2.1),Ô (by simp only[Ŏ,gO,Bool.and_eq_false_iff,decide_eq_false_iff_not]; exact Decidable.not_and_iff_or_not.1 a5)]
  rw[Ø (by simp[Ŏ,a5.1,a5.2]),ä,ä,ä,ä]
  have rest:∀X Y:Option ρ,(c.2.2.1=d.2.2.1)→(if decide (c=d)=true then k0 (i:Int) else kn ((i:Int)+1))=(if c.2.2.2.1=d.2.2.2.1 then k0 (i:Int) else kn ((i:Int)+1)):=by
   intro _ _ h
   by_cases g:c.2.2.2.1=d.2.2.2.1
   ·rw[if_pos (decide_eq_true (hsplit.2 ⟨a1,a2,a3,a4,a5,h,g⟩)),if_pos g]
   ·rw[if_neg g]; exact hno g (fun e=>(hsplit.1 e).2.2.2.2.2.2)
  by_cases l1:c.2.2.1.length=d.2.2.1.length
  case neg =>
   rw[hno l1 (fun e=>by rw[e]),Ø (bne_iff_ne.2 (by omega))]
  rw[Ô (by rw[l1]; exact bne_self_eq_false' _)];have e3:=Wf (ρ:=ρ) l1 (by omega);rw[ä] at e3;rw[e3]
  by_cases g1:c.2.2.1=d.2.2.1
  case neg=>rw[if_neg g1,ø,hno g1 (fun e=>(hsplit.1 e).2.2.2.2.2.1)]
  rw[if_pos g1,rest none none g1]
  by_cases l2:c.2.2.2.1.length=d.2.2.2.1.length
  case neg =>
   rw[Ø (bne_iff_ne.2 (by omega)),if_neg (fun e=>l2 (by rw[e]))]
  rw[Ô (by rw[l2]; exact bne_self_eq_false' _),aph];have e4:=Wf (ρ:=ρ) l2 (by omega);rw[ä] at e4;rw[e4,ø]
 ·try dsimp only
  unfold qD;rw[ã]
def apg:@mT ρ=@kO ρ:=rfl
def apf:@ě ρ=@ň ρ:=rfl
def ap5 {x y:List ñ} (hx:x.length≤1000) (hy:y.length≤1000) (X Y KF:Option ρ):Î (fun(v225:Int) kk227=>qC x (Û x) y v225 (fun u226=>kk227 u226) (fun z=>ifb (!(ige z 0)) X KF) (fun _=>Y)) (0:Int)=if mz x y (fun _=>true) then Y else KF:=by
 refine Lj x y (fun _=>true) X Y KF (fun i a hi ha kn=>?_) (fun kn=>?_)
 ·try dsimp only
  unfold qC;rw[Ö hi,Ì ha,ad6 (by omega),À,Ï hi (by omega),Ě];simp
 ·try dsimp only
  unfold qC;rw[ã]
def amy {x y:List (Int×Int)} (hx:x.length≤1000) (hy:y.length≤1000) (ids:List Int) (X Y KF:Option ρ):Î (fun(v225:Int) kk227=>kO x (Û x) (Tr ids) y v225 (fun u226=>kk227 u226) (fun z=>ifb (!(ige z 0)) X KF) (fun _=>Y)) (0:Int)=if mz x y (fun u=>ids.contains u.1) then Y else KF:=by
 refine Lj x y (fun u=>ids.contains u.1) X Y KF (fun i a hi ha kn=>?_) (fun kn=>?_)
 ·try dsimp only
  unfold kO;rw[Ö hi,Ì ha,Aj,ad5 (by omega),À]
  by_cases h:ids.contains a.1=true
  ·rw[if_pos h,Ŋ,Ï hi (by omega),Ě,h];simp
  ·rw[if_neg h,Ï hi (by omega)];have h':=Bool.not_eq_true _▸h;rw[h'];simp
 ·try dsimp only
  unfold kO;rw[ã]
def amx {x y:List Lp} (hx:x.length≤1000) (hy:y.length≤1000) (ids:List Int) (X Y KF:Option ρ):Î (fun(v225:Int) kk227=>ň x (Û x) (Tr ids) y v225 (fun u226=>kk227 u226) (fun z=>ifb (!(ige z 0)) X KF) (fun _=>Y)) (0:Int)=if mz x y (fun u=>ids.contains u.1) then Y else KF:=by
 refine Lj x y (fun u=>ids.contains u.1) X Y KF (fun i a hi ha kn=>?_) (fun kn=>?_)
 ·try dsimp only
  unfold ň;rw[Ö hi,Ì ha,Aj,aae (by omega),À]
  by_cases h:ids.contains a.1=true
  ·rw[if_pos h,Ŋ,Ï hi (by omega),Ě,h];simp
  ·rw[if_neg h,Ï hi (by omega)];have h':=Bool.not_eq_true _▸h;rw[h'];simp
 ·try dsimp only
  unfold ň;rw[ã]
def ap4 {x y:List Lp} (hx:x.length≤1000) (hy:y.length≤1000) (ids:List Int) (k:Bool→Option ρ):Î (fun(v225:Int) kk227=>ň x (Û x) (Tr ids) y v225 (fun u226=>kk227 u226) (fun z=>k (!(ige z 0))) (fun _=>k true)) (0:Int)=k (mz x y (fun u=>ids.contains u.1)):=by
 have h:=amx (ρ:=ρ) hx hy ids (k true) (k true) (k false)
 have e:(fun z:Int=>ifb (!(ige z 0)) (k true) (k false))=fun z=>k (!(ige z 0)):=by
  funext z
  cases(!(ige z 0))<;>rfl
 rw[e] at h;rw[h]
 cases mz x y (fun u=>ids.contains u.1)<;>rfl
def ap6 {x y:List Cmp} (hx:x.length≤1000) (hp:∀c∈x,c.2.2.1.length≤1000∧c.2.2.2.1.length≤1000) (hy:y.length≤1000) (K:Option Bool):Î (fun(v228:Int) kk230=>qE x (Û x) y v228 (fun u229=>kk230 u229) (fun z44=>some z44) (fun _=>K)) (0:Int)=if (x.all fun c=>XC c y)=true then K else some false:=by
 refine(Ń x (fun c=>!XC c y) (fun _=>some false) (some false) K (fun _=>rfl) (fun i c hi hc kn=>?_) (fun kn=>?_)).trans ?_
 rotate_left
 ·try dsimp only
  unfold qE;rw[ã]
 ·rw[List.all_eq_not_any_not]
  cases x.any fun c=>!XC c y<;>rfl
 ·try dsimp only
  unfold qE;have h:=hp c (List.mem_of_getElem? hc);rw[Ö hi,Ì hc];refine(ajU hy c h.1 h.2 _ (kn ((i:Int)+1)) (some false) (fun j=>by rw[show ige (j:Int) 0=true from decide_eq_true (by omega),Ï hi (by omega)]; rfl)).trans ?_
  cases XC c y<;>rfl
end
def part_ok {s b:â} (hs:Ž s) (hb:Ž b):IF s b=some (anf s b):=by
 have g1:=hs.gauges; have g2:=hs.uses; have g3:=hs.loans; have g4:=hs.compares;have b1:=hb.gauges; have b2:=hb.uses; have b3:=hb.loans; have b4:=hb.compares;unfold IF Yt anf;rw[apg,apf];refine(ô s.2.1 (fun i=>Tr (ak4 (s.1,s.2.1.take i,s.2.2))) (some _) rfl (fun i g hi hg kn=>?_) (fun kn=>?_))
 ·try dsimp only
  unfold vW;rw[Ö hi,Ì hg,Ï hi (by omega)];unfold ak4;dsimp only;rw[take_succ hg,List.map_append,List.map_singleton,yl]
 ·try dsimp only
  unfold vW;rw[ã,List.take_length]
  try dsimp only
  rw[show ak4 (s.1,s.2.1,s.2.2)=ak4 s from rfl];refine(ap6 g4 hs.piles b4 _).trans ?_;rw[show(mz s.2.2.2.2.1 b.2.2.2.2.1 fun _=>true)=s.2.2.2.2.1.all fun c=>XC c b.2.2.2.2.1 from rfl]
  by_cases hc:(s.2.2.2.2.1.all fun c=>XC c b.2.2.2.2.1)=true
  case neg=>rw[if_neg hc,eF.2 hc]; rfl
  rw[if_pos hc,hc,dW]
  by_cases hf:s.1=b.1
  case neg =>
   have ef:(Ŏ s.1.1 b.1.1&&(Ŏ s.1.2 b.1.2&&true))=false:=by
    rw[gS] at hf;simp[Ŏ];omega
   rw[ef,ø,decide_eq_false hf];rfl
  have ef:(Ŏ s.1.1 b.1.1&&(Ŏ s.1.2 b.1.2&&true))=true:=by simp[Ŏ,hf]
  rw[ef,Ŋ,decide_eq_true hf,dW];refine(ap5 g1 b1 _ _ _).trans ?_;cases mz s.2.1 b.2.1 fun _=>true
  case false=>rfl
  rw[if_pos rfl,dW];refine(amy g2 b2 _ _ _ _).trans ?_;cases mz s.2.2.1 b.2.2.1 fun u=>(ak4 s).contains u.1
  case false=>rfl
  rw[if_pos rfl,dW];refine(amy b2 g2 _ _ _ _).trans ?_;cases mz b.2.2.1 s.2.2.1 fun u=>(ak4 s).contains u.1
  case false=>rfl
  rw[if_pos rfl,dW];refine(amx g3 b3 _ _ _ _).trans ?_;cases mz s.2.2.2.1 b.2.2.2.1 fun u=>(ak4 s).contains u.1
  case false=>rfl
  rw[if_pos rfl,dW];exact ap4 b3 g3 _ some
def xV (x:List Int) (y:List Int) (l:Lk):List Int:=if gv x l.2.1=ĸ then y else y.set l.1.toNat (min (gv y l.1) (l.2.2+gv x l.2.1))
def adm (L:List Lk) (N:Nat) (x:List Int):List Int:=L.foldl (xV x) (List.replicate N ĸ)
def exL (L:List Lk) (N:Nat) (to:Int):Nat→List Int
 |0=>(List.replicate N ĸ).set to.toNat 0
 |k+1=>adm L N (exL L N to k)
def o9 (L:List Lk) (N:Nat) (to:Int) (most:Nat):List (List Int):=(List.range (most+1)).map (exL L N to)
section
variable {L:List Lk} {N:Nat}
def WA (x y:List Int) (l:Lk):(xV x y l).length=y.length:=by unfold xV; split<;>simp
def K4 (x:List Int):∀(M:List Lk) (y:List Int),(M.foldl (xV x) y).length=y.length
 |[],y=>rfl
 |l::M,y=>by rw[fL,K4 x M,WA]
def aiO (x:List Int):(adm L N x).length=N:=by unfold adm; rw[K4]; simp
def afI (to:Int) (k:Nat):(exL L N to k).length=N:=by
 cases k with
 |zero=>simp[exL]
 |succ k=>exact aiO _
def Lim (B:Int) (x:List Int):Prop:=∀v:Int,gv x v≠ĸ→-B≤gv x v∧gv x v≤B
def gv_out {x:List Int} {v:Int} (h:¬v.toNat<x.length):gv x v=0:=by
 unfold gv;rw[List.getElem?_eq_none (by omega)];rfl
def akV {B:Int} (hB:0≤B):Lim B (List.replicate N ĸ):=by
 intro v hv
 by_cases h:v.toNat<N
 ·exfalso; apply hv;unfold gv;rw[List.getElem?_replicate,if_pos h];rfl
 ·rw[gv_out (by simpa using h)]; omega
def akU {B:Int} {y:List Int} (hy:Lim B y) {u:Int} (hu:0≤u) (hl:u.toNat<y.length) {a:Int} (ha:a≠ĸ→-B≤a∧a≤B):Lim B (y.set u.toNat a):=by
 intro v hv
 by_cases h:v.toNat=u.toNat
 ·have:gv (y.set u.toNat a) v=a:=by
   unfold gv;rw[h,List.getElem?_set_self hl];rfl
  rw[this] at hv ⊢;exact ha hv
 ·have:gv (y.set u.toNat a) v=gv y v:=by
   unfold gv;rw[List.getElem?_set_ne (fun e=>h e.symm)]
  rw[this] at hv ⊢;exact hy v hv
def ans (hS:ł L N) {B:Int} (hB:0≤B) (hB2:B≤1000000000000000000) {x y:List Int} (hx:Lim B x) (hy:Lim (B+4503599627370496) y) (hl:y.length=N) {l:Lk} (hm:l∈L):Lim (B+4503599627370496) (xV x y l):=by
 unfold xV
 split
 ·exact hy
 ·rename_i hf;have h1:=hS.inr l hm;have h2:=hS.most l hm;have h3:=hx _ hf;refine akU hy h1.1.1 (by omega) fun ha=>?_
  by_cases h4:gv y l.1=ĸ
  ·rw[h4] at ha ⊢
   have:min ĸ (l.2.2+gv x l.2.1)=l.2.2+gv x l.2.1:=by unfold ĸ; omega
   rw[this]; omega
  ·have:=hy _ h4;omega
def ahb (hS:ł L N) {B:Int} (hB:0≤B) (hB2:B≤1000000000000000000) {x:List Int} (hx:Lim B x):∀(M:List Lk),(∀l∈M,l∈L)→∀y:List Int,y.length=N→Lim (B+4503599627370496) y→Lim (B+4503599627370496) (M.foldl (xV x) y)
 |[],_,y,_,hy=>hy
 |l::M,hM,y,hl,hy=>by
  rw[fL];exact ahb hS hB hB2 hx M (fun m hm=>hM m (by simp[hm])) _ (by rw[WA,hl]) (ans hS hB hB2 hx hy hl (hM l (by simp)))
def afy (hS:ł L N) {to:Int} (ht:0≤to∧to<N):∀k:Nat,k≤200→Lim (k*4503599627370496) (exL L N to k)
 |0,_=>by
  unfold exL;exact akU (akV (by omega)) ht.1 (by simp; omega) (fun _=>by omega)
 |k+1,hk=>by
  have:=ahb hS (B:=k*4503599627370496) (by omega) (by omega) (afy hS ht k (by omega)) L (fun _ h=>h) (List.replicate N ĸ) (by simp) (akV (by omega));unfold exL adm
  have e:(((k+1:Nat):Int)*4503599627370496)=(k:Int)*4503599627370496+4503599627370496:=by push_cast; omega
  rw[e];exact this
def adj {ρ:Type} (hN:N≤1000) (K:List Int→Option ρ) {f:Int×List Int→(Int×List Int→Option ρ)→Option ρ}
 (hf:∀(v:Int×List Int) kk,f v kk=Ba (N:Int) v.1 v.2 (fun u34 u35=>kk (u34,u35)) K):Î f ((0:Int),List.replicate N (0:Int))=K (List.replicate N ĸ):=by
 refine ô (List.replicate N (0:Int)) (fun i=>List.replicate i ĸ++List.replicate (N-i) (0:Int)) _ (by simp) (fun i a hi ha kn=>?_) (fun kn=>?_)
 ·rw[hf];dsimp only;unfold Ba;rw[List.length_replicate] at hi
  have hlen:(List.replicate i ĸ++List.replicate (N-i) (0:Int)).length=N:=by simp; omega
  have e1:ilt (i:Int) (N:Int)=true:=decide_eq_true (by omega);rw[Ø e1,show ĉ (List.replicate i ĸ++List.replicate (N-i) (0:Int))=(N:Int) by unfold ĉ; rw[hlen],Ĵ (by omega) (by omega),j3 (by rw[hlen]; omega),Õ (by omega) (by omega)];congr 2;rw[Int.toNat_natCast];rw[List.set_append_right _ _ (by simp),List.length_replicate,Nat.sub_self];rw[show N-i=(N-(i+1))+1 by omega,List.replicate_succ,List.set_cons_zero,List.replicate_succ'];simp
 ·rw[hf];dsimp only;unfold Ba;rw[List.length_replicate];have e1:ilt (N:Int) (N:Int)=false:=decide_eq_false (by omega);rw[Ô e1];simp
def okN (hN:N≤1000) {ρ:Type} (x:Option ρ):ë ((ile (0:Int) (N:Int))&&(î (Int.toNat (N:Int)))) x=x:=by
 rw[ĩ];rw[dk,Ú (by omega),gO];exact decide_eq_true (by omega)
def akT {ρ:Type} (hS:ł L N) {B:Int} (hB:0≤B) (hB2:B≤1000000000000000000) {x:List Int} (hx:Lim B x) (hxl:x.length=N) (K:List Int→Option ρ) :
 Î (fun(v20:(Val (.pair tI (.slice tI)))) kk23=>Ho x L (Û L) v20.1 v20.2 (fun u21 u22=>kk23 (u21,u22)) K) ((0:Int),List.replicate N ĸ)=K (adm L N x):=by
 have hl3:=hS.len;refine ô L (fun i=>(L.take i).foldl (xV x) (List.replicate N ĸ)) _ rfl (fun i l hi hl kn=>?_) (fun kn=>?_)
 ·try dsimp only
  unfold Ho;have hm:=List.mem_of_getElem? hl;have h1:=hS.inr l hm;have h2:=hS.most l hm;rw[Ö hi,Ì hl,tB h1.2.1 (by omega),take_succ hl,List.foldl_append,Ï hi (by omega)]
  have hlen:((L.take i).foldl (xV x) (List.replicate N ĸ)).length=N:=by rw[K4]; simp
  generalize (L.take i).foldl (xV x) (List.replicate N ĸ)=y at hlen ⊢
  by_cases hf:gv x l.2.1=ĸ
  ·rw[Ô (by rw[hf]; rfl)];simp only[List.foldl_cons,List.foldl_nil];unfold xV;rw[if_pos hf]
  ·have h3:=hx _ hf;rw[Ø (bne_iff_ne.2 hf),show ĉ y=(N:Int) by unfold ĉ; rw[hlen],Ĵ h1.1.1 h1.1.2,j3 (by omega),tB h1.2.1 (by omega),Õ (by omega) (by omega),Ĵ h1.1.1 h1.1.2,j3 (by omega),Ï hi (by omega)];simp only[List.foldl_cons,List.foldl_nil];unfold xV;rw[if_neg hf,tz]
 ·try dsimp only
  unfold Ho;rw[ã,List.take_length];rfl
def anL {ρ:Type}:@YN ρ=@Ba ρ:=rfl
def lm (to:Int) (m:Nat):(o9 L N to m).length=m+1:=by simp[o9]
def K3 {to:Int} {m k:Nat} (hk:k≤m):(o9 L N to m)[k]?=some (exL L N to k):=by
 unfold o9;rw[List.getElem?_map,List.getElem?_range (by omega)];rfl
def anK (hS:ł L N) {to:Int} (ht:0≤to∧to<N) {most:Nat} (hm:most≤100):As ((N:Int),L) to (most:Int)=some (o9 L N to most):=by
 have hN:=hS.n60
 unfold As QZ
 dsimp only;rw[okN (by omega),Int.toNat_natCast];refine(adj (by omega) _ (fun v kk=>by rw[ä,List.length_replicate])).trans ?_;rw[show ĉ (List.replicate N ĸ)=(N:Int) by simp[ĉ],Ĵ ht.1 ht.2,j3 (by simp; omega)];refine ô (List.replicate most ()) (fun i=>o9 L N to i) _ (by simp[o9,exL]) (fun i a hi ha kn=>?_) (fun kn=>?_)
 ·try dsimp only
  unfold Ou;rw[List.length_replicate] at hi;have e1:ilt (i:Int) (most:Int)=true:=decide_eq_true (by omega);rw[Ø e1,ä,lm]
  have e2:(((i+1:Nat):Int)-1)=(i:Int):=by omega
  rw[e2,Õ (by omega) (by omega),show ĉ (o9 L N to i)=((i+1:Nat):Int) by unfold ĉ; rw[lm],Ĵ (by omega) (by omega),Int.toNat_natCast,nk (K3 (Nat.le_refl i)),okN (by omega),Int.toNat_natCast];rw[anL];refine(adj (by omega) _ (fun v kk=>by rw[ä,List.length_replicate])).trans ?_;refine(akT hS (B:=i*4503599627370496) (by omega) (by omega) (afy hS ht i (by omega)) (afI _ _) _).trans ?_;rw[ĩ (Ú (by simp only[lm,List.length_singleton]; omega)),Õ (by omega) (by omega)];congr 2;unfold o9;rw[List.range_succ (n:=i+1),List.map_append];rfl
 ·try dsimp only
  unfold Ou;rw[List.length_replicate];have e1:ilt (most:Int) (most:Int)=false:=decide_eq_false (by omega);rw[Ô e1]
def Tv (L:List Lk) (x:List Int) (good:Int→Bool) (u sum:Int):Option Nat:=L.findIdx? fun l=>l.1==u&&(decide (gv x l.2.1≠ĸ)&&good (sum+l.2.2+gv x l.2.1))
def tC (L:List Lk) (rest:Nat→List Int) (good:Int→Bool):Nat→Int→Int→List Int→List Int
 |0,_,_,out=>out
 |k+1,u,sum,out=>match Tv L (rest k) good u sum with
  |some i=>tC L rest good k (L[i]?.getD (0,0,0)).2.1 (sum+(L[i]?.getD (0,0,0)).2.2) (out++[(i:Int)])
  |none=>tC L rest good k u sum out
def folL {ρ:Type} (good:Int→Bool) (c0:Int) (c1:List (List Int)) (c2:List Lk) (c3:Int) (v0:Int) (v1:Int) (v2:Int) (v3:List Int) (kn:Int→Int→Int→List Int→Option ρ) (k0:Int×Int×List Int→Option ρ):Option ρ :=
 ifb (ilt v2 c3) (ā c2 v2 fun e7=>ifb (ieq e7.1 v0) (ck (c0-(1:Int)) fun n8=>ā c1 n8 fun e9=>ā e9 e7.2.1 fun e10=>ifb (ine e10 (1152921504606846976:Int)) (ck (v1+e7.2.2) fun n11=>ck (c0-(1:Int)) fun n12=>ā c1 n12 fun e13=>ā e13 e7.2.1 fun e14=>ck (n11+e14) fun n15=>ifb (good n15) (ë (î ((List.length v3)+(List.length ([v2])))) (ck (v1+e7.2.2) fun n16=>k0 (e7.2.1,n16,(v3++([v2]))))) (ck (v2+(1:Int)) fun n17=>kn v0 v1 n17 v3)) (ck (v2+(1:Int)) fun n18=>kn v0 v1 n18 v3)) (ck (v2+(1:Int)) fun n19=>kn v0 v1 n19 v3)) (k0 (v0,v1,v3))
def apA {ρ:Type} (hS:ł L N) (good:Int→Bool) {rest:List (List Int)} {k:Nat} {x:List Int} (hr:rest[k]?=some x) (hk:k≤100) (hx:Lim 1000000000000000000 x) (hxl:x.length=N) {u sum:Int} (hs : -1000000000000000000≤sum∧sum≤1000000000000000000) {out:List Int} (ho:out.length≤1000)
 (K:Int×Int×List Int→Option ρ):Î (fun(v:Int×Int×Int×List Int) kk=>folL good ((k+1:Nat):Int) rest L (Û L) v.1 v.2.1 v.2.2.1 v.2.2.2 (fun a b c d=>kk (a,b,c,d)) K) (u,sum,(0:Int),out) =
  match Tv L x good u sum with|some i=>K ((L[i]?.getD (0,0,0)).2.1,sum+(L[i]?.getD (0,0,0)).2.2,out++[(i:Int)])|none=>K (u,sum,out):=by
 have hl3:=hS.len;refine Ĕ (fun v=>∃i:Nat,i≤L.length∧v=(u,sum,(i:Int),out)∧∀j l,j<i→L[j]?=some l→(l.1==u&&(decide (gv x l.2.1≠ĸ)&&good (sum+l.2.2+gv x l.2.1)))=false) (fun v=>L.length-v.2.2.1.toNat) ?_ ⟨0,by omega,rfl,fun j l h=>by omega⟩;rintro v ⟨i,hi,rfl,hp⟩
 have e0:(((k+1:Nat):Int)-1)=(k:Int):=by omega
 rcases dn i L.length with h2|h2
 ·have hl:L[i]?=some L[i]:=cO h2;generalize L[i]=l at hl;have hm:=cZ hl;have h1:=hS.inr l hm;have h4:=hS.most l hm
  have hstep:(l.1==u&&(decide (gv x l.2.1≠ĸ)&&good (sum+l.2.2+gv x l.2.1)))=false→∃y,(∃i:Nat,i≤L.length∧y=(u,sum,(i:Int),out)∧∀j l,j<i→L[j]?=some l→(l.1==u&&(decide (gv x l.2.1≠ĸ)&&good (sum+l.2.2+gv x l.2.1)))=false)∧(L.length-y.2.2.1.toNat<L.length-((u,sum,(i:Int),out):Int×Int×Int×List Int).2.2.1.toNat)∧y=(u,sum,(i:Int)+1,out):=fun hf =>
   ⟨_,⟨i+1,h2,by rw[show((i+1:Nat):Int)=(i:Int)+1 by push_cast; rfl],fun j m hj hm=>by
    rcases eZ.1 hj with h|rfl
    ·exact hp j m h hm
    ·rw[hl] at hm; cases hm; exact hf⟩,by simp; omega,rfl⟩
  by_cases hf:(l.1==u&&(decide (gv x l.2.1≠ĸ)&&good (sum+l.2.2+gv x l.2.1)))=true
  ·refine .inl fun kn=>?_
   have hfi:Tv L x good u sum=some i:=by
    unfold Tv;rw[List.findIdx?_eq_some_iff_getElem];obtain⟨hh,rfl⟩:=List.getElem?_eq_some_iff.1 hl;exact⟨h2,hf,fun j hj=>by have:=hp j _ hj (List.getElem?_eq_getElem (by omega)); rw[this]; simp⟩
   rw[hfi];simp only[Bool.and_eq_true,beq_iff_eq,decide_eq_true_eq] at hf;have h5:=hx _ hf.2.1;dsimp only;unfold folL
   rw[Ö h2,Ì hl,Ø (by simp[hf.1]),e0,Õ (by omega) (by omega),Ì hr,tB h1.2.1 (by omega),Ø (bne_iff_ne.2 hf.2.1),Õ (by omega) (by omega),Õ (by omega) (by omega),Ì hr,tB h1.2.1 (by omega),Õ (by omega) (by omega),Ø hf.2.2,
    ĩ (Ú (by simp; omega)),Õ (by omega) (by omega),hl]
   rfl
  ·have hf':=Bool.not_eq_true _▸hf;obtain⟨y,hy1,hy2,rfl⟩:=hstep hf';refine .inr ⟨_,hy1,hy2,fun kn=>?_⟩;dsimp only;unfold folL;rw[Ö h2,Ì hl,Ï h2 (by omega)]
   by_cases g1:l.1=u
   ·rw[Ø (by simp[g1]),e0,Õ (by omega) (by omega),Ì hr,tB h1.2.1 (by omega)]
    by_cases g2:gv x l.2.1=ĸ
    ·rw[Ô (by rw[g2]; rfl)]
    ·have h5:=hx _ g2
     have g3:good (sum+l.2.2+gv x l.2.1)=false:=by simpa[g1,g2] using hf'
     rw[Ø (bne_iff_ne.2 g2),Õ (by omega) (by omega),Õ (by omega) (by omega),Ì hr,tB h1.2.1 (by omega),Õ (by omega) (by omega),Ô g3]
   ·rw[Ô (by simpa using g1)]
 ·refine .inl fun kn=>?_
  obtain rfl:i=L.length:=by omega
  have hfi:Tv L x good u sum=none:=by
   unfold Tv;rw[List.findIdx?_eq_none_iff];intro l hl;obtain⟨j,hj,rfl⟩:=List.mem_iff_getElem.1 hl;exact hp j _ hj (List.getElem?_eq_getElem hj)
  rw[hfi];dsimp only;unfold folL;rw[ã]
def apz {ρ:Type} (good:Int→Bool) (c0:List (List Int)) (c6:List Lk) (v0:Int) (v1:Int) (v2:Int) (v3:List Int) (kn:Int→Int→Int→List Int→Option ρ) (k0:List Int→Option ρ):Option ρ :=
 ifb (igt v1 (0:Int)) (Î (fun(v22:Int×Int×Int×List Int) kk27=>folL good v1 c0 c6 (Û c6) v22.1 v22.2.1 v22.2.2.1 v22.2.2.2 (fun u23 u24 u25 u26=>kk27 (u23,u24,u25,u26)) (fun z20=>ck (v1-(1:Int)) fun n21=>kn z20.1 n21 z20.2.1 z20.2.2)) (v0,v2,(0:Int),v3)) (k0 v3)
def an3 {ρ:Type} (c0:List (List Int)) (c4:Int) (c6:List Lk):@sm ρ c0 c4 c6=apz (fun n=>ieq n c4) c0 c6:=rfl
def apy {ρ:Type} (hS:ł L N) (good:Int→Bool) {rest:List (List Int)} {R:Nat→List Int} {k0:Nat} (hk:k0≤100) (hr:∀k,k<k0→rest[k]?=some (R k)) (hx:∀k,k<k0→Lim 900000000000000000 (R k)∧(R k).length=N) (u:Int) (K:List Int→Option ρ) :
 Î (fun(v:Int×Int×Int×List Int) kk=>apz good rest L v.1 v.2.1 v.2.2.1 v.2.2.2 (fun a b c d=>kk (a,b,c,d)) K) (u,(k0:Int),(0:Int),[])=K (tC L R good k0 u 0 []):=by
 have key:=uT (f:=fun(v:Int×Int×Int×List Int) kk=>apz good rest L v.1 v.2.1 v.2.2.1 v.2.2.2 (fun a b c d=>kk (a,b,c,d)) K) (F:=fun v=>K (tC L R good v.2.1.toNat v.1 v.2.2.1 v.2.2.2))
  (fun v=>∃k:Nat,v.2.1=k∧k≤k0∧(-(((k0-k:Nat):Int)*4503599627370496)≤v.2.2.1∧v.2.2.1≤((k0-k:Nat):Int)*4503599627370496)∧v.2.2.2.length≤k0-k) (fun v=>v.2.1.toNat) (fun v hv kn hk=>?_) (x:=(u,(k0:Int),0,[])) ⟨k0,rfl,cQ _,by simp,by simp⟩
 ·rw[key]; simp
 ·obtain⟨u,k',sum,out⟩:=v;obtain⟨k,e,h1,h2,h3⟩:=hv;dsimp only at e h2 h3 hk ⊢;subst e;rw[Int.toNat_natCast] at hk ⊢;unfold apz
  cases k with
  |zero =>
   rw[Ô (by rfl)];rfl
  |succ k =>
   rw[Ø (decide_eq_true (by omega))];have hh:=hx k (by omega)
   have hlim:Lim 1000000000000000000 (R k):=fun v hv=>by have:=hh.1 v hv; omega
   refine(apA hS good (hr k (by omega)) (by omega) hlim hh.2 (by omega) (by omega) _).trans ?_;unfold tC
   have e0:(((k+1:Nat):Int)-1)=(k:Int):=by omega
   cases hn:Tv L (R k) good u sum with
   |none =>
    dsimp only;rw[e0,Õ (by omega) (by omega),hk _ ⟨k,rfl,by omega,by dsimp only; omega,by dsimp only; omega⟩ (by simp)];simp
   |some i =>
    have hi:i<L.length:=by
     unfold Tv at hn;exact(List.findIdx?_eq_some_iff_getElem.1 hn).1
    have hl:L[i]?=some L[i]:=List.getElem?_eq_getElem hi;have h4:=hS.most L[i] (List.getElem_mem _);dsimp only;rw[hl];simp only[Option.getD_some];rw[e0,Õ (by omega) (by omega),hk _ ⟨k,rfl,by omega,by dsimp only; omega,by simp; omega⟩ (by simp)];simp
def Tk (L:List Lk) (N:Nat) (u v:Int):List Int×Int :=
 if (iG L N u v).2≠0 then([],(iG L N u v).2) else
 match (o9 L N v N).findIdx? (fun x=>gv x u==(iG L N u v).1) with
 |some k=>(tC L (exL L N v) (fun n=>ieq n (iG L N u v).1) k u 0 [],0)
 |none=>([],0)
def ah0 (hS:ł L N) {u v:Int} (hu:0≤u∧u<N) (hv:0≤v∧v<N):Aw ((N:Int),L) u v=some (Tk L N u v):=by
 have hN:=hS.n60;unfold Aw Re Tk;rw[OP hS hu hv,À]
 by_cases h:(iG L N u v).2=0
 ·rw[Ô (by rw[h]; rfl),if_neg (by simp[h]),anK hS hv (by omega),À];rw[an3]
  let k0:Int→Option (List Int×Int):=fun j=>Î (fun(v29:Int×Int×Int×List Int) kk34=>apz (fun n=>ieq n (iG L N u v).1) (o9 L N v N) L v29.1 v29.2.1 v29.2.2.1 v29.2.2.2 (fun u30 u31 u32 u33=>kk34 (u30,u31,u32,u33)) (fun z28=>some ((z28,(0:Int)):List Int×Int))) (u,j,(0:Int),[])
  refine(iA (o9 L N v N) (fun x=>gv x u==(iG L N u v).1) k0 (k0 (-1)) (fun i x hi hx kn=>?_) (fun kn=>?_)).trans ?_
  rotate_left
  ·try dsimp only
   unfold sn;rw[ã]
  ·have hex:∀k,k<N+1→(o9 L N v N)[k]?=some (exL L N v k):=fun k hk=>K3 (by omega)
   have hlim:∀k,k<N+1→Lim 900000000000000000 (exL L N v k)∧(exL L N v k).length=N:=fun k hk=>⟨fun w hw=>by
    have:=afy hS hv k (by omega) w hw; omega,afI _ _⟩
   cases hf:(o9 L N v N).findIdx? (fun x=>gv x u==(iG L N u v).1) with
   |none =>
    have:=uT (f:=fun(v29:Int×Int×Int×List Int) kk34=>apz (fun n=>ieq n (iG L N u v).1) (o9 L N v N) L v29.1 v29.2.1 v29.2.2.1 v29.2.2.2 (fun u30 u31 u32 u33=>kk34 (u30,u31,u32,u33)) (fun z28=>some ((z28,(0:Int)):List Int×Int))) (F:=fun _=>some (([],0):List Int×Int)) (fun v=>v.2.1 = -1∧v.2.2.2=[]) (fun _=>0) (fun x hx kn hk=>by
     unfold apz;rw[hx.1,hx.2]
     rfl) (x:=(u,(-1:Int),(0:Int),[])) ⟨rfl,rfl⟩
    exact this
   |some k =>
    have hk:=(dA.1 hf).1;rw[lm] at hk;exact apy hS _ (R:=exL L N v) (by omega) (fun j hj=>hex j (by omega)) (fun j hj=>hlim j (by omega)) u (fun z=>some ((z,(0:Int)):List Int×Int))
  ·try dsimp only
   unfold sn
   have hxl:x.length=N:=by
    have hi':=hi;rw[lm] at hi';rw[K3 (by omega)] at hx;cases hx;exact afI _ _
   rw[lm] at hi;rw[ä,lm,Ø (decide_eq_true (by omega)),Ì hx,tB hu.1 (by omega),Õ (by omega) (by omega),Ě]
 ·rw[Ø (bne_iff_ne.2 h),if_pos h]
end
def ajN (f:Int→Int→Int) (z:Int) (l:List Int) (d:Int):Int:=match l with|[]=>z|x::_=>f x d
def B5 (f:Int→Int→Int) (z:Int) (c:Cmp):Int:=ajN f z (é c.2.2.1 c.2.2.2.1) c.2.1-ajN f z (é c.2.2.2.1 c.2.2.1) c.2.1
structure ap7 (b:â) (f:Int→Int→Int) (z:Int) (g:ñ):Prop where
 hi:f g.1 g.2.1≤z+(g.2.2.1+g.2.2.2.1.2)
 lo:z+(g.2.2.1+g.2.2.2.1.1)≤f g.1 g.2.1
 down:∀d e,g.2.1≤d→d≤e→f g.1 e≤f g.1 d
 loss:∀d e,g.2.1≤d→d≤e→f g.1 d≤f g.1 e+jc b g d e
structure aee (b:â) (f:Int→Int→Int) (z:Int):Prop where
 gauge:∀g∈b.2.1,ap7 b f z g
 cmp:∀c∈b.2.2.2.2.1,(Œ b c).1≤B5 f z c∧B5 f z c≤(Œ b c).2
def adk {b:â} (h:Ē b) {p:Int→Int} (hg:∀g∈b.2.1,rl b p g):∃f:Int→Int→Int,(∀g∈b.2.1,ap7 b f (p 0) g)∧∀g∈b.2.1,∀d∈à b g,f g.1 d=p (Τ b g.1 d):=by
 let f:Int→Int→Int:=fun id d=>match Ź b id with|some g=>fill b p g d|none=>0
 have hfv:∀g∈b.2.1,∀d,f g.1 d=fill b p g d:=fun g hgm d=>by
  show(match Ź b g.1 with|some g=>fill b p g d|none=>0)=_;rw[wS h.ids hgm]
 refine⟨f,fun g hgm=>?_,fun g hgm d hd=>by rw[hfv g hgm]; exact OB h hgm (hg g hgm) hd⟩;have gf:=hg g hgm
 have e0:f g.1 g.2.1=p (Τ b g.1 g.2.1):=by rw[hfv g hgm]; exact OB h hgm gf (kD g)
 refine⟨by rw[e0]; exact gf.hi,by rw[e0]; exact gf.lo,fun d e h0 hde=>?_,fun d e h0 hde=>?_⟩
 ·rw[hfv g hgm,hfv g hgm];exact(Iv h hgm gf h0 hde).1
 ·rw[hfv g hgm,hfv g hgm];exact(Iv h hgm gf h0 hde).2
def aaB {b:â} {f:Int→Int→Int} {p:Int→Int} (hm:∀g∈b.2.1,∀d∈à b g,f g.1 d=p (Τ b g.1 d)) {l:List Int} {day:Int} (hl:∀x∈l,∃g∈b.2.1,g.1=x∧day∈à b g):p (N8 b l day)=ajN f (p 0) l day:=by
 cases l with
 |nil=>rfl
 |cons x t =>
  obtain⟨g,q1,rfl,q3⟩:=hl x (by simp);exact(hm g q1 day q3).symm
def SC {b:â} {f:Int→Int→Int} {p:Int→Int} (hm:∀g∈b.2.1,∀d∈à b g,f g.1 d=p (Τ b g.1 d)) {c:Cmp}
 (hl:∀x,x∈é c.2.2.1 c.2.2.2.1∨x∈é c.2.2.2.1 c.2.2.1→∃g∈b.2.1,g.1=x∧c.2.1∈à b g):p (cx b c)-p (cy b c)=B5 f (p 0) c:=by
 unfold B5;rw[K9,K8,aaB hm (fun x hx=>hl x (.inl hx)),aaB hm (fun x hx=>hl x (.inr hx))]
def Vr {b:â} (h:Ē b) (f:Int→Int→Int) (z:Int) {l:List Int} {day:Int} (hl:∀x∈l,∃g∈b.2.1,g.1=x∧day∈à b g):Tn b f z (N8 b l day)=ajN f z l day:=by
 rw[Lg h f z hl];unfold ajN
 cases l<;>rfl
def O6 {b:â} (h:Ē b) {f:Int→Int→Int} {z:Int} {c:Cmp} (hl:∀x,x∈é c.2.2.1 c.2.2.2.1∨x∈é c.2.2.2.1 c.2.2.1→∃g∈b.2.1,g.1=x∧c.2.1∈à b g):Tn b f z (cx b c)-Tn b f z (cy b c)=B5 f z c:=by
 unfold B5;rw[K9,K8,Vr h f z (fun x hx=>hl x (.inl hx)),Vr h f z (fun x hx=>hl x (.inr hx))]
def Vq {b:â} (h:Ē b) {f:Int→Int→Int} {z:Int} {g:ñ} (hg:g∈b.2.1) (hh:ap7 b f z g):rl b (Tn b f z) g:=by
 have q:∀d∈à b g,Tn b f z (Τ b g.1 d)=f g.1 d:=fun d hd=>Fp h f z hg hd;have e0:=q g.2.1 (kD g);refine⟨?_,?_,fun d e hd he hde=>?_,fun d e hd he hde=>?_⟩
 ·rw[e0,qp]; exact hh.hi
 ·rw[e0,qp]; exact hh.lo
 ·rw[q d hd,q e he]; exact hh.down d e (h.day hg hd).1 hde
 ·rw[q d hd,q e he]; exact hh.loss d e (h.day hg hd).1 hde
section
variable {b:â} {c:Cmp}
def ana (h:Ē b) {p:Int→Int} (hp:Pot (æ b) p):∃f,aee b f (p 0)∧∀g∈b.2.1,∀d∈à b g,f g.1 d=p (Τ b g.1 d):=by
 obtain⟨hg,hc⟩:=(Xg h).1 hp;obtain⟨f,hf,hm⟩:=adk h hg;refine⟨f,⟨hf,fun c hcm=>?_⟩,hm⟩;have:=SC hm (c:=c) (fun x hx=>pA h hcm hx);have:=hc c hcm;omega
def anC (h:Ē b) {f:Int→Int→Int} {z:Int} (hh:aee b f z):Pot (æ b) (Tn b f z):=by
 refine(Xg h).2 ⟨fun g hg=>Vq h hg (hh.gauge g hg),fun c hc=>?_⟩;have:=O6 (f:=f) (z:=z) h (c:=c) (fun x hx=>pA h hc hx);have:=hh.cmp c hc;omega
def ahu (h:Ē b) {d:Cmp} (hd:d∈b.2.2.2.2.1):∀x,x∈é d.2.2.1 d.2.2.2.1∨x∈é d.2.2.2.1 d.2.2.1→∃g∈(Ù b c).2.1,g.1=x∧d.2.1∈à (Ù b c) g:=by
 intro x hx;obtain⟨g,q1,q2,q3⟩:=pA h hd hx;exact⟨g,q1,q2,rg q3⟩
def ak5 (h:Ē b) (h':Ē (Ù b c)) {p:Int→Int} (hp:Pot (å (Ù b c)) p):∃f,aee b f (p 0)∧p (cx (Ù b c) c)-p (cy (Ù b c) c)=B5 f (p 0) c:=by
 obtain⟨hg,hc⟩:=(OA h').1 hp;obtain⟨f,hf,hm⟩:=adk h' hg;refine⟨f,⟨fun g hgm=>?_,fun d hd=>?_⟩,SC hm fun x hx=>pA h' kv hx⟩
 ·have:=hf g hgm;exact⟨this.hi,this.lo,this.down,this.loss⟩
 ·have:=SC hm (c:=d) (ahu h hd);have:=hc d hd;omega
def ac5 (h:Ē b) (h':Ē (Ù b c)) {f:Int→Int→Int} {z:Int} (hh:aee b f z):Pot (å (Ù b c)) (Tn (Ù b c) f z)∧Tn (Ù b c) f z (cx (Ù b c) c)-Tn (Ù b c) f z (cy (Ù b c) c)=B5 f z c:=by
 refine⟨(OA h').2 ⟨fun g hg=>Vq h' hg ?_,fun d hd=>?_⟩,O6 h' fun x hx=>pA h' kv hx⟩
 ·have:=hh.gauge g hg;exact⟨this.hi,this.lo,this.down,this.loss⟩
 ·have:=O6 (f:=f) (z:=z) h' (c:=d) (ahu h hd);have:=hh.cmp d hd;omega
def abi (h:Ē b):Ğ (æ b) ((Í b).length+1)=true↔∃f z,aee b f z:=by
 have:=h.sys.n60;rw[œ h.sys.links (by omega)];constructor
 ·rintro⟨p,hp⟩;obtain⟨f,hf,_⟩:=ana h hp;exact⟨f,_,hf⟩
 ·rintro⟨f,z,hh⟩;exact⟨_,anC h hh⟩
def d_max (h:Ē b) (h':Ē (Ù b c)) {f:Int→Int→Int} {z:Int} (hh:aee b f z):dLo b c≤B5 f z c∧B5 f z c≤dHi b c:=by
 have ho:Ğ (å (Ù b c)) ((Í (Ù b c)).length+1)=true:=by rw[ki h h']; exact(abi h).2 ⟨f,z,hh⟩
 obtain⟨hp,hd⟩:=ac5 h h' hh;have a1:=SA (ś h') (ι h') ho (vv h') (vu h') hp;have a2:=SA (ś h') (ι h') ho (vu h') (vv h') hp;unfold dLo dHi;omega
def d_all (h:Ē b) (h':Ē (Ù b c)) (ho:Ğ (æ b) ((Í b).length+1)=true) {t:Int} (h1:dLo b c≤t) (h2:t≤dHi b c):∃f z,aee b f z∧B5 f z c=t:=by
 rw[←ki h h'] at ho;obtain⟨p,hp,hd⟩:=apH (ś h') (ι h') ho (vv h') (vu h') h1 h2;obtain⟨f,hf,he⟩:=ak5 h h' hp;exact⟨f,_,hf,by rw[←he]; exact hd⟩
def apK (h:Ē b) (h':Ē (Ù b c)) (ho:Ğ (æ b) ((Í b).length+1)=true):dLo b c≤dHi b c:=by
 rw[←ki h h'] at ho;exact ado (ś h') (ι h') ho (vv h') (vu h')
def am4 (b:â) (c:Cmp):(Œ b c).1=c.2.2.2.2.1-oo b c∧(Œ b c).2=c.2.2.2.2.1-MK b c:=by
 unfold Œ oo MK;constructor
 ·simp only; omega
 ·simp only; omega
structure Pred (b:â) (c:Cmp) (s:Int×Int):Prop where
 good:Ē b
 good2:Ē (Ù b (Â c))
 order:MK b c≤oo b c
 has:∃f z,aee b f z
 ends:s.1-MK b c≤s.2-oo b c
 bd : -9007199254740992≤s.1-MK b c∧s.2-oo b c≤9007199254740992
 all:∀f z,aee b f z→s.1-MK b c≤B5 f z c∧B5 f z c≤s.2-oo b c
 each:∀t,s.1-MK b c≤t→t≤s.2-oo b c→∃f z,aee b f z∧B5 f z c=t
def yn (hp:(Þ b c).2=0):Pred b c (Þ b c).1:=by
 obtain⟨h,h'⟩:=mf hp;rw[E5 h h'] at hp ⊢
 by_cases ho:Ğ (æ b) ((Í b).length+1)=true
 ·rw[if_pos ho] at hp ⊢;obtain⟨h1,h2⟩:=aep hp;rw[h2];have e1:MK b (Â c)=MK b c:=rfl;have e2:oo b (Â c)=oo b c:=rfl;rw[e1,e2] at *
  have s1:dLo b (Â c)+MK b c-MK b c=dLo b (Â c):=by omega
  have s2:dHi b (Â c)+oo b c-oo b c=dHi b (Â c):=by omega
  refine⟨h,h',h1,(abi h).1 ho,?_,?_,fun f z hh=>?_,fun t t1 t2=>?_⟩
  ·simp only;rw[s1,s2];exact apK h h' ho
  ·simp only;rw[s1,s2];rw[←ki h h'] at ho;have a1:=WB (ś h') (ι h') ho (vv h') (vu h');have a2:=WB (ś h') (ι h') ho (vu h') (vv h');unfold dLo dHi;omega
  ·simp only;rw[s1,s2];exact d_max (c:=Â c) h h' hh
  ·simp only at t1 t2;rw[s1] at t1;rw[s2] at t2;exact d_all (c:=Â c) h h' ho t1 t2
 ·rw[if_neg ho] at hp;simp at hp
end
theorem W4 {b:â} (h:Ē b):(ŷ b).length=(æ b).length:=by
 have g0:∀i,((b.2.1.take i).mapIdx (ð b)).flatten.length=((b.2.1.take i).flatMap (ï b)).length:=by
  intro i
  induction i with
  |zero=>simp
  |succ i ih =>
   rcases dn i b.2.1.length with hi|hi
   ·have hg:b.2.1[i]?=some b.2.1[i]:=List.getElem?_eq_getElem hi;rw[ς _ hg,take_succ hg,List.flatMap_append,List.flatten_append,List.length_append,List.length_append,ih];congr 1;unfold ð ï;simp only[List.flatMap_cons,List.flatMap_nil,List.append_nil,List.flatten_cons,List.flatten_nil,List.length_append];rw[Ů _ _ (fun _=>rfl),Ů _ _ (fun _=>rfl)];rfl
   ·rw[dX (by omega)] at ih ⊢;exact ih
 have c0:=WN (b:=b) b.2.2.2.2.1.length (Nat.le_refl _);have g1:=g0 b.2.1.length;rw[List.take_length] at c0 g1;unfold ŷ æ;rw[List.length_append,List.length_append,g1,c0.1,c0.2]
theorem ac6 {b:â}:∀s∈(b.2.1.mapIdx (ð b)).flatten,(s.1=1∨s.1=2)∧0≤s.2∧s.2<b.2.1.length:=by
 intro s hs;obtain⟨l,hl,hm⟩:=List.mem_flatten.1 hs;obtain⟨i,hi,rfl⟩:=List.mem_iff_getElem.1 hl;rw[List.length_mapIdx] at hi;rw[List.getElem_mapIdx] at hm;unfold ð at hm;rcases List.mem_append.1 hm with h|h
 ·simp at h; subst h; exact⟨.inl rfl,by dsimp only; omega,by dsimp only; omega⟩
 ·obtain⟨_,_,h⟩:=List.mem_flatMap.1 h;simp at h; subst h; exact⟨.inr rfl,by dsimp only; omega,by dsimp only; omega⟩
theorem adt {l:List Cmp}:∀s∈(l.mapIdx fun i (_:Cmp)=>[((3:Int),(i:Int)),((3:Int),(i:Int))]).flatten,s.1=3∧0≤s.2∧s.2<l.length:=by
 intro s hs;obtain⟨m,hl,hm⟩:=List.mem_flatten.1 hs;obtain⟨i,hi,rfl⟩:=List.mem_iff_getElem.1 hl;rw[List.length_mapIdx] at hi;rw[List.getElem_mapIdx] at hm;simp at hm; subst hm;exact⟨rfl,by dsimp only; omega,by dsimp only; omega⟩
theorem anm (b:â) (c:Cmp):∃S:List (Int×Int),ŷ (Ù b c)=S++[(3,(b.2.2.2.2.1.length:Int)),(3,(b.2.2.2.2.1.length:Int))]∧∀s∈S,¬(s.1=3∧s.2=(b.2.2.2.2.1.length:Int)):=by
 refine⟨((Ù b c).2.1.mapIdx (ð (Ù b c))).flatten++(b.2.2.2.2.1.mapIdx fun i (_:Cmp)=>[((3:Int),(i:Int)),((3:Int),(i:Int))]).flatten,?_,fun s hs=>?_⟩
 ·unfold ŷ;rw[show(Ù b c).2.2.2.2.1=b.2.2.2.2.1++[c] from rfl,List.mapIdx_append,List.flatten_append,List.append_assoc];simp
 ·rcases cX.1 hs with h|h
  ·have:=ac6 s h; omega
  ·have:=adt s h; omega
theorem KL (b:â) (c:Cmp) (h:Ē (Ù b c)):æ (Ù b c)=å (Ù b c)++[(cy (Ù b c) c,cx (Ù b c) c,(Œ (Ù b c) c).2),(cx (Ù b c) c,cy (Ù b c) c,-(Œ (Ù b c) c).1)]:=by
 rw[Zz];unfold æ;rw[show(Ù b c).2.2.2.2.1=b.2.2.2.2.1++[c] from rfl,List.flatMap_append,List.append_assoc];simp[ò]
def aec (b:â) (c:Cmp) (s t:Int):Int:=dst (å (Ù b c)) ((Í (Ù b c)).length+1) s t
abbrev End:Type:=Int×Int×Int
abbrev oA:Type:=(Int×Int)×End×End
def apC (b:â) (c:Cmp) (s t:Int):End :=
 (aec b c s t,aec b c s (cy (Ù b c) c)+(Œ b c).2+aec b c (cx (Ù b c) c) t,aec b c s (cx (Ù b c) c)-(Œ b c).1+aec b c (cy (Ù b c) c) t)
def worth0:oA:=((0,0),(0,0,0),(0,0,0))
def mo (b:â) (n:Int×Int) (c:Cmp):oA :=
 ((Þ b c).1,apC b (Â c) 0 (wQ (Ù b (Â c)) n.1 n.2),apC b (Â c) (wQ (Ù b (Â c)) n.1 n.2) 0)
def KO (b:â) (n:Int×Int) (c:Cmp):oA×Int:=if (Þ b c).2≠0 then(worth0,(Þ b c).2) else(mo b n c,0)
theorem Lz {b:â} {c:Cmp} (h:(Þ b c).2=0):Ğ (æ b) ((Í b).length+1)=true:=by
 obtain⟨g1,g2⟩:=mf h;rw[E5 g1 g2] at h
 by_cases ho:Ğ (æ b) ((Í b).length+1)=true
 ·exact ho
 ·rw[if_neg ho] at h; cases h
section
variable {b:â} {c:Cmp} (h:Ē b) (h':Ē (Ù b c)) (ho:Ğ (æ b) ((Í b).length+1)=true)
include h h' ho
theorem qM {s t:Int} (hs:0≤s∧s<((Í (Ù b c)).length+1:Nat)) (ht:0≤t∧t<((Í (Ù b c)).length+1:Nat)) : -9007199254740992≤aec b c s t∧aec b c s t≤9007199254740992 :=
 WB (ś h') (ι h') (by rw[ki h h']; exact ho) hs ht
theorem uX (B:â) {s t:Int} (hs:0≤s∧s<((Í (Ù b c)).length+1:Nat)) (ht:0≤t∧t<((Í (Ù b c)).length+1:Nat)):Ď (B,(((Í (Ù b c)).length:Int)+1,å (Ù b c))) t s=some (aec b c s t):=by
 rw[show(((Í (Ù b c)).length:Int)+1)=(((Í (Ù b c)).length+1:Nat):Int) by push_cast; rfl,adP (ś h') ht hs,BJ (ś h') (ι h') hs ht,if_pos (by rw[ki h h']; exact ho)];rfl
theorem aev:(-4503599627370496≤(Œ b c).1∧(Œ b c).1≤4503599627370496)∧(-4503599627370496≤(Œ b c).2∧(Œ b c).2≤4503599627370496):=by
 have hs:=h'.sys;have e:=KL b c h';have m1:=hs.most (cy (Ù b c) c,cx (Ù b c) c,(Œ (Ù b c) c).2) (by rw[e]; simp);have m2:=hs.most (cx (Ù b c) c,cy (Ù b c) c,-(Œ (Ù b c) c).1) (by rw[e]; simp);have e2:Œ (Ù b c) c=Œ b c:=rfl;rw[e2] at m1 m2;dsimp only at m1 m2;omega
theorem ahr (B:â) {s t:Int} (hs:0≤s∧s<((Í (Ù b c)).length+1:Nat)) (ht:0≤t∧t<((Í (Ù b c)).length+1:Nat)) :
 ot t s (B,(((Í (Ù b c)).length:Int)+1,å (Ù b c))) (cy (Ù b c) c) (Œ b c) (cx (Ù b c) c)=some (apC b c s t):=by
 have hx:=vv h';have hy:=vu h';have b1:=qM h h' ho hs ht;have b2:=qM h h' ho hs hy;have b3:=qM h h' ho hx ht;have b4:=qM h h' ho hs hx;have b5:=qM h h' ho hy ht;have b6:=aev h h' ho;unfold ot zx;rw[uX h h' ho B hs ht,À,uX h h' ho B hs hy,À,Õ (by omega) (by omega),uX h h' ho B hx ht,À,Õ (by omega) (by omega),uX h h' ho B hs hx,À,Õ (by omega) (by omega),uX h h' ho B hy ht,À,Õ (by omega) (by omega)];rfl
end
theorem aaP {B:â} (h:Ē B) (hn:∀g∈B.2.1,I64 g.2.2.2.2.1.1) (s:Sys) (l:List Int) (c:Cmp):ou l (B,s) c=some (atP (Í B) l c.2.1):=by
 unfold ou zy
 cases l with
 |nil=>rw[ä]; rfl
 |cons x t =>
  rw[ä,Ô (beq_eq_false_iff_ne.2 (by simp; omega)),show(0:Int)=((0:Nat):Int) from rfl,Ì (show(x::t)[0]?=some x from rfl),S8 h hn,À];rfl
theorem alb {ρ:Type} {b:â} {c:Cmp} (h:Ē (Ù b c)) (K:List Lk→Option ρ) :
 Î (fun(v17:Val Ñ) kk20=>lU (b.2.2.2.2.1.length:Int) (ŷ (Ù b c)) (æ (Ù b c)) (Û (æ (Ù b c))) v17.1 v17.2 (fun u18 u19=>kk20 (u18,u19)) K) ((0:Int),[])=K (å (Ù b c)):=by
 have hl3:=h.sys.len;have hsl:=W4 h;obtain⟨S,hS,hSk⟩:=anm b c;have hL:=KL b c h
 have hSl:S.length=(å (Ù b c)).length:=by
  rw[hS,hL,cW,cW] at hsl;simpa using hsl
 generalize å (Ù b c)=H at hL hSl ⊢;rw[hS];generalize æ (Ù b c)=L at hL hsl hl3 ⊢
 have hLl:L.length=H.length+2:=by rw[hL]; simp
 refine ô L (fun i=>(L.take i).take H.length) _ (by simp) (fun i l hi hl kn=>?_) (fun kn=>?_)
 ·try dsimp only
  unfold lU;rw[Ö hi,Ì hl];rcases Nat.lt_or_ge i H.length with h1|h1
  ·have hs:(S++[((3:Int),(b.2.2.2.2.1.length:Int)),(3,(b.2.2.2.2.1.length:Int))])[i]?=some S[i]:=by
    rw[fG (by omega),cO]
   have hk:=hSk S[i] (eO _)
   have e:((Ŏ (S[i]).1 (3:Int))&&((Ŏ (S[i]).2 (b.2.2.2.2.1.length:Int))&&true))=false:=by
    simp[Ŏ]; omega
   have e1:(L.take i).take H.length=L.take i:=dX (by rw[dj]; omega);have e2:(L.take (i+1)).take H.length=L.take (i+1):=dX (by rw[dj]; omega);rw[Ì hs,e,Ø (by rfl),e1,e2,ĩ (Ú (by rw[dj]; simp; omega)),Ï hi (by omega),take_succ hl]
  ·have hs:(S++[((3:Int),(b.2.2.2.2.1.length:Int)),(3,(b.2.2.2.2.1.length:Int))])[i]?=some ((3:Int),(b.2.2.2.2.1.length:Int)):=by
    rw[fB (by omega)]
    have:i-S.length=0∨i-S.length=1:=by omega
    rcases this with e|e<;>rw[e]<;>rfl
   have e:((Ŏ (3:Int) (3:Int))&&((Ŏ (b.2.2.2.2.1.length:Int) (b.2.2.2.2.1.length:Int))&&true))=true:=by simp[Ŏ]
   have e1:(L.take i).take H.length=(L.take (i+1)).take H.length:=by
    rw[List.take_take,List.take_take];congr 1;omega
   rw[Ì hs];dsimp only;rw[e,Ô (by rfl),Ï hi (by omega),e1]
 ·try dsimp only
  unfold lU;rw[ã,List.take_length,hL];simp
theorem Ii {B:â} (hr:aop B) (n:Int×Int) {c:Cmp} (hA:c.2.2.1.length≤1000) (hB:c.2.2.2.1.length≤1000):qd (B,Og B) n c=some (KO B n c):=by
 unfold qd J5 KO;have hs:=hr.good.size;rw[show(B,Og B).1=B from rfl,ajl hs hr.num hA hB,À]
 by_cases hp:(Þ B c).2=0
 ·obtain⟨g1,g2⟩:=mf hp;have ho:=Lz hp
  have e1:xh B (Â c)=(Ù B (Â c),0):=by
   unfold xh;rw[if_neg (by simp[(ó B).2 g1]),if_neg (by simp[(ó _).2 g2])]
  have hn2:∀g∈(Ù B (Â c)).2.1,I64 g.2.2.2.2.1.1:=hr.num;have hC:=g2.nC
  have hw:(((Ù B (Â c)).2.2.2.2.1.length:Int)-1)=(B.2.2.2.2.1.length:Int):=by simp[Ù]
  have hSays:aon (Ù B (Â c)) (B.2.2.2.2.1.length:Int)=(Œ B (Â c),0):=by
   have e:tM (Ù B (Â c)) (B.2.2.2.2.1.length:Int)=(Â c,0):=by
    unfold tM;rw[if_neg (by simp[(ó _).2 g2]),if_neg (by simp[Ù]; omega)];simp[Ù]
   unfold aon;rw[e,if_neg (by simp)];rfl
  have hCancel:Tl c.2.2.1 c.2.2.2.1=(é c.2.2.1 c.2.2.2.1,é c.2.2.2.1 c.2.2.1,0):=by
   have hnu:=(Ŵ _).1 (g2.nums (kv (c:=Â c)));have h6:mi c.2.2.1=true∧mi c.2.2.2.1=true:=⟨hnu.2.2.2.2.2.1,hnu.2.2.2.2.2.2⟩;unfold Tl;rw[h6.1,h6.2];rfl
  rw[Ô (by rw[hp]; rfl),if_neg (by simp[hp]),show pG B (c.1,c.2.1,c.2.2.1,c.2.2.2.1,(0:Int),c.2.2.2.2.2)=pG B (Â c) from rfl,amf hs hr.num (c:=Â c) hA hB,À,e1];dsimp only;rw[Ô (by rfl),ä,hw,Õ (by omega) (by omega),apY (g2.inn hn2),À,hSays,ad7 (by omega) (by omega),À,hCancel,rk (g2.inn hn2),À,jL g2];dsimp only;refine(alb g2 _).trans ?_;have ex:cx (Ù B (Â c)) (Â c)=atP (Í (Ù B (Â c))) (é c.2.2.1 c.2.2.2.1) c.2.1:=rfl;have ey:cy (Ù B (Â c)) (Â c)=atP (Í (Ù B (Â c))) (é c.2.2.2.1 c.2.2.1) c.2.1:=rfl;rw[aaP g2 hn2,À,aaP g2 hn2,À,S8 g2 hn2,À,←ex,←ey,ahr g1 g2 ho _ (iq _) (Θ _ n),À,ahr g1 g2 ho _ (Θ _ n) (iq _),À];rfl
 ·rw[Ø (bne_iff_ne.2 hp),if_pos hp];rfl
abbrev aoz:Type:=â×(Int×Int)×Bool×Int×List Int
def alE:aoz:=(lu,(0,0),false,0,[])
def DE (L:List Lk):Int→Int→List Int→Int×Int×Bool
 |u,s,[]=>(u,s,true)
 |u,s,i::t=>if (L[i.toNat]?.getD (0,0,0)).1=u then DE L (L[i.toNat]?.getD (0,0,0)).2.1 (s+(L[i.toNat]?.getD (0,0,0)).2.2) t else(0,0,false)
def adR (L:List Lk) (i:Int):Bool:=decide (i<0)||decide ((L.length:Int)≤i)
def lX (L:List Lk) (l:List Int):Int:=if 80<l.length then 2 else if l.any (adR L) then 1 else 0
def Λ (L:List Lk) (u v:Int) (l:List Int):Int×Int :=
 if lX L l≠0 then(0,lX L l) else if (DE L u 0 l).2.2=true∧(DE L u 0 l).1=v then((DE L u 0 l).2.1,0) else(0,8)
def aoR (u:Int) (w:Int×Int×Bool):Int:=if w.2.2=true∧w.1=u∧w.2.1<0 then 0 else 8
def xj (L:List Lk) (l:List Int):Int :=
 if lX L l≠0 then lX L l else match l with
 |[]=>8
 |i::_=>aoR (L[i.toNat]?.getD (0,0,0)).1 (DE L (L[i.toNat]?.getD (0,0,0)).1 0 l)
section
variable {L:List Lk} {N:Nat}
def Wn (N:Int) (hL:L.length≤1000) (l:List Int):qY (N,L) l=some (lX L l):=by
 unfold qY Ey lX;dsimp only;rw[ä]
 by_cases h:80<l.length
 ·rw[Ø (decide_eq_true (by omega)),if_pos h]
 ·rw[Ô (decide_eq_false (by omega)),if_neg h,←ä l];refine(Ń l (adR L) (fun z=>ifb (ige z 0) (some 1) (some 0)) (some 1) (some 0) (fun j=>by rw[show ige (j:Int) 0=true from decide_eq_true (by omega)]; rfl) (fun i a hi ha kn=>?_) (fun kn=>?_)).trans ?_
  ·try dsimp only
   unfold nt adR;rw[Ö hi,Ì ha,Ï hi (by omega),ä,Ě,Ě]
   by_cases h1:a<0
   ·simp[ilt,h1]
   ·by_cases h2:(L.length:Int)≤a
    ·simp[ilt,ige,h1,h2]
    ·simp[ilt,ige,h1,h2]
  ·try dsimp only
   unfold nt;rw[ã]
  ·cases l.any (adR L)<;>rfl
def afC {l:List Int} (h:lX L l=0):l.length≤80∧∀i∈l,0≤i∧i.toNat<L.length:=by
 unfold lX at h
 split at h
 ·omega
 ·rename_i h1
  split at h
  ·omega
  ·rename_i h2;refine⟨by omega,fun i hi=>?_⟩;have:=eG.1 (eF.2 h2) i hi;simp[adR] at this;omega
def ajA (hS:ł L N) (u:Int) {l:List Int} (h:lX L l=0):IK ((N:Int),L) u l=some (DE L u 0 l):=by
 obtain⟨hl,hi⟩:=afC h;unfold IK YL;dsimp only
 have:=uT (f:=fun(v7:Int×Int×Int) kk11=>wn l (Û l) L v7.1 v7.2.1 v7.2.2 (fun u8 u9 u10=>kk11 (u8,u9,u10)) (fun z5=>some (z5.1,z5.2.1,z5.2.2)) (fun z6=>some (z6.1,z6.2,true)))
  (F:=fun v=>some (DE L v.1 v.2.1 (l.drop v.2.2.toNat))) (fun v=>∃i:Nat,v.2.2=i∧i≤l.length∧(-(i*4503599627370496)≤v.2.1∧v.2.1≤i*4503599627370496)) (fun v=>l.length-v.2.2.toNat) (fun v hv kn hk=>?_) (x:=(u,(0:Int),(0:Int))) ⟨0,rfl,by omega,by simp⟩
 ·exact this
 ·obtain⟨w,s,n⟩:=v;obtain⟨i,e,h1,h2⟩:=hv;dsimp only at e h2 hk ⊢;subst e;rw[Int.toNat_natCast] at hk ⊢;unfold wn;rcases Nat.lt_or_ge i l.length with h3|h3
  ·have ha:l[i]?=some l[i]:=List.getElem?_eq_getElem h3;have hd:l.drop i=l[i]::l.drop (i+1):=List.drop_eq_getElem_cons h3;rw[hd];have hx:=hi l[i] (List.getElem_mem _);generalize l[i]=a at ha hx;have hg:L[a.toNat]?=some L[a.toNat]:=List.getElem?_eq_getElem hx.2;have hm:=hS.most _ (List.mem_of_getElem? hg);generalize L[a.toNat]=x at hg hm;rw[Ö h3,Ì ha,iC hx.1 hg];unfold DE;rw[hg];simp only[Option.getD_some]
   by_cases hc:x.1=w
   ·rw[Ô (by rw[hc]; exact bne_self_eq_false' _),if_pos hc,Õ (by omega) (by omega),Ï h3 (by omega),hk _ ⟨i+1,by push_cast; rfl,h3,by dsimp only; push_cast; omega⟩ (by simp; omega)];simp
   ·rw[Ø (bne_iff_ne.2 hc),if_neg hc]
  ·obtain rfl:i=l.length:=by omega
   rw[ã,List.drop_length];rfl
def ajB (hS:ł L N):∀(l:List Int) (u s B:Int),-B≤s∧s≤B→-(B+l.length*4503599627370496)≤(DE L u s l).2.1∧(DE L u s l).2.1≤B+l.length*4503599627370496
 |[],u,s,B,h=>by simp[DE]; omega
 |i::t,u,s,B,h=>by
  unfold DE
  have hm : -4503599627370496≤(L[i.toNat]?.getD (0,0,0)).2.2∧(L[i.toNat]?.getD (0,0,0)).2.2≤4503599627370496:=by
   cases hg:L[i.toNat]? with
   |none=>simp
   |some x=>exact hS.most x (cZ hg)
  split
  ·have:=ajB hS t (L[i.toNat]?.getD (0,0,0)).2.1 (s+(L[i.toNat]?.getD (0,0,0)).2.2) (B+4503599627370496) (by omega);rw[df];push_cast;omega
  ·dsimp only;omega
def Jb (hS:ł L N) {u v:Int} (hu:0≤u∧u<N) (hv:0≤v∧v<N) (l:List Int):kp ((N:Int),L) u v l=some (Λ L u v l):=by
 have hl3:=hS.len;unfold kp tm Λ
 have e1:(decide (0≤u)&&decide (u<(N:Int)))=true:=by simp[hu.1,hu.2]
 have e2:(decide (0≤v)&&decide (v<(N:Int)))=true:=by simp[hv.1,hv.2]
 rw[mh hS,À,Ô (by rfl),Pr,À,e1,Ô (by rfl),Pr,À,e2,Ô (by rfl),Wn _ (by omega),À]
 by_cases h:lX L l=0
 ·rw[Ô (by rw[h]; rfl),if_neg (by simp[h]),ajA hS u h,À]
  cases h1:(DE L u 0 l).2.2 with
  |false=>rw[Ø (by rfl),if_neg (by simp)]
  |true =>
   rw[Ô (by rfl)]
   by_cases h2:(DE L u 0 l).1=v
   ·rw[Ô (by rw[h2]; exact bne_self_eq_false' _),if_pos ⟨rfl,h2⟩]
   ·rw[Ø (bne_iff_ne.2 h2),if_neg (fun h=>h2 h.2)]
 ·rw[Ø (bne_iff_ne.2 h),if_pos h]
def ak3 {ρ α:Type} (x:α) (t:List α) (f:α→Option ρ):ā (x::t) (0:Int) f=f x:=rfl
def Vd (hS:ł L N) (l:List Int):ny ((N:Int),L) l=some (xj L l):=by
 have hl3:=hS.len;unfold ny tk xj;rw[mh hS,À,Ô (by rfl),Wn _ (by omega),À]
 by_cases h:lX L l=0
 ·rw[Ô (by rw[h]; rfl),if_neg (by simp[h])]
  cases l with
  |nil=>rw[ä]; rfl
  |cons i t =>
   have hx:=(afC h).2 i (by simp);have hg:L[i.toNat]?=some L[i.toNat]:=List.getElem?_eq_getElem hx.2;generalize L[i.toNat]=x at hg;rw[ä,Ô (beq_eq_false_iff_ne.2 (by simp; omega)),ak3,iC hx.1 hg,ajA hS x.1 h,À];dsimp only;rw[hg];dsimp only[Option.getD_some];generalize DE L x.1 0 (i::t)=w;obtain⟨e,sum,ok⟩:=w;unfold aoR;dsimp only
   cases ok with
   |false=>rw[Ø (by rfl),if_neg (by simp)]
   |true =>
    rw[Ô (by rfl)]
    by_cases h2:e=x.1
    ·rw[Ô (by rw[h2]; exact bne_self_eq_false' _)]
     by_cases h3:sum<0
     ·rw[Ô (decide_eq_false (by omega)),if_pos ⟨rfl,h2,h3⟩]
     ·rw[Ø (decide_eq_true (by omega)),if_neg (fun h=>h3 h.2.2)]
    ·rw[Ø (bne_iff_ne.2 h2),if_neg (fun h=>h2 h.2.1)]
 ·rw[Ø (bne_iff_ne.2 h),if_pos h]
end
def qi (c:aoz):Int :=
 if è c.1≠0 then è c.1 else if wQ c.1 c.2.1.1 c.2.1.2=0 then 5 else
 if c.2.2.1 then(if Λ (æ c.1) 0 (wQ c.1 c.2.1.1 c.2.1.2) c.2.2.2.2=(c.2.2.2.1,0) then 0 else 8)
 else(if Λ (æ c.1) (wQ c.1 c.2.1.1 c.2.1.2) 0 c.2.2.2.2=(-c.2.2.2.1,0) then 0 else 8)
def rm (c:aoz):Int :=
 if è c.1≠0 then è c.1 else if c.2.1≠(0,0)∨c.2.2.1=true∨c.2.2.2.1≠0 then 1 else if xj (æ c.1) c.2.2.2.2=0 then 0 else 8
def aga (b:â) (c:aoz):Bool×Int :=
 if è b≠0 then(false,è b) else
 if c.2.1=(0,0) then(if rm c≠0 then(false,rm c) else(anf c.1 b,0)) else(if qi c≠0 then(false,qi c) else(anf c.1 b,0))
def wr_neg {n:Int} (h:I64 n):agk (0-n)=if n = -9223372036854775808 then n else -n:=by
 have e:agk (0-n)=if (0-n) % 18446744073709551616≥9223372036854775808 then(0-n) % 18446744073709551616-18446744073709551616 else(0-n) % 18446744073709551616:=by
  simp[agk,IntKind.wrap,IntKind.bits,IntKind.signed]
 rw[e];unfold I64 at h
 split<;>split<;>omega
def MX {c:aoz} (hI:In c.1) (hv:I64 c.2.2.2.1):l8 c=some (qi c):=by
 unfold l8 wg qi;rw[jp hI.size hI.num,À]
 by_cases hc:è c.1=0
 ·have hg:=(ó c.1).1 hc;rw[Ô (by simp[ine,hc]),if_neg (show ¬(è c.1≠0) from fun h=>h hc),Tj hI,À,E6 hg,rk hI,À,jL hg];dsimp only
  by_cases h0:wQ c.1 c.2.1.1 c.2.1.2=0
  ·rw[if_pos h0,if_pos h0]; rfl
  ·have hN:=hg.sys;have hr:=Θ c.1 c.2.1;have hz:=iq c.1;rw[if_neg h0,if_neg h0,Ô (by rfl),show(((Í c.1).length:Int)+1)=(((Í c.1).length+1:Nat):Int) by push_cast; rfl];dsimp only;rw[show(∀f:Int→Option Int,ck (0-c.2.2.2.1) f=f (agk (0-c.2.2.2.1))) from fun f=>rfl,wr_neg hv]
   have key:∀(u v:Int) (t t':Int),(t'=t∨(t' = -9223372036854775808∧t=9223372036854775808))→(ifb (ine (Λ (æ c.1) u v c.2.2.2.2).2 0) (some (8:Int)) (ifb (ine (Λ (æ c.1) u v c.2.2.2.2).1 t') (some 8) (some 0)))=some (if Λ (æ c.1) u v c.2.2.2.2=(t,0) then 0 else 8):=by
    intro u v t t' ht
    have hb : -9000000000000000000≤(Λ (æ c.1) u v c.2.2.2.2).1∧(Λ (æ c.1) u v c.2.2.2.2).1≤9000000000000000000:=by
     unfold Λ
     split
     ·simp
     ·rename_i hi
      split
      ·have:=ajB hN c.2.2.2.2 u 0 0 (by simp);have:=(afC (by simpa using hi)).1;dsimp only;omega
      ·simp
    generalize Λ (æ c.1) u v c.2.2.2.2=p at hb ⊢
    by_cases h2:p.2=0
    ·rw[Ô (by rw[h2]; rfl)]
     by_cases h1:p.1=t'
     ·have:p=(t,0):=Prod.ext (by rcases ht with h|h<;>omega) h2
      rw[Ô (by rw[h1]; exact bne_self_eq_false' _),if_pos this]
     ·have:¬p=(t,0):=fun e=>by
       have e1:p.1=t:=by rw[e]
       rcases ht with h|h<;>omega
      rw[Ø (bne_iff_ne.2 h1),if_neg this]
    ·have:¬p=(t,0):=fun e=>h2 (by rw[e]);rw[Ø (bne_iff_ne.2 h2),if_neg this]
   unfold I64 at hv
   cases c.2.2.1 with
   |true =>
    rw[Ŋ,Jb hN hz hr,À,key _ _ _ _ (.inl rfl)];rfl
   |false =>
    rw[ø,Jb hN hr hz,À,key _ _ (-c.2.2.2.1) _ (by split<;>omega)]
    rfl
 ·rw[Ø (by simp[ine,hc]),if_pos hc]
def aaf {c:aoz} (hI:In c.1):nv c=some (rm c):=by
 unfold nv tc rm;rw[jp hI.size hI.num,À]
 by_cases hc:è c.1=0
 ·have hg:=(ó c.1).1 hc;rw[Ô (by simp[ine,hc]),if_neg (show ¬(è c.1≠0) from fun h=>h hc)]
  by_cases h1:c.2.1=(0,0)
  ·have e1:(!((Ŏ c.2.1.1 0)&&((Ŏ c.2.1.2 0)&&true)))=false:=by rw[h1]; rfl
   rw[e1,ø]
   cases h2:c.2.2.1 with
   |true=>rw[Ŋ,if_pos (.inr (.inl rfl))]
   |false =>
    rw[ø]
    by_cases h3:c.2.2.2.1=0
    ·rw[Ô (by rw[h3]; rfl),if_neg (by simp[h1,h3]),rk hI,À,jL hg,show(((Í c.1).length:Int)+1)=(((Í c.1).length+1:Nat):Int) by push_cast; rfl];dsimp only;rw[Vd hg.sys,À]
     by_cases h4:xj (æ c.1) c.2.2.2.2=0
     ·rw[Ô (by rw[h4]; rfl),if_pos h4]
     ·rw[Ø (bne_iff_ne.2 h4),if_neg h4]
    ·rw[Ø (bne_iff_ne.2 h3),if_pos (.inr (.inr h3))]
  ·have e1:(!((Ŏ c.2.1.1 0)&&((Ŏ c.2.1.2 0)&&true)))=true:=by
    rw[Prod.ext_iff] at h1;simp[Ŏ];dsimp only at h1;omega
   rw[e1,Ŋ,if_pos (.inl h1)]
 ·rw[Ø (by simp[ine,hc]),if_pos hc]
def amg {b:â} {c:aoz} (hb:In b) (hI:In c.1) (hv:I64 c.2.2.2.1):Bs b c=some (aga b c):=by
 unfold Bs Ka aga;rw[jp hb.size hb.num,À]
 by_cases hc:è b=0
 ·rw[Ô (by simp[ine,hc]),if_neg (show ¬(è b≠0) from fun h=>h hc)]
  by_cases h1:c.2.1=(0,0)
  ·have e1:((Ŏ c.2.1.1 0)&&((Ŏ c.2.1.2 0)&&true))=true:=by rw[h1]; rfl
   rw[e1,Ŋ,if_pos h1,aaf hI,À]
   by_cases h2:rm c=0
   ·rw[Ô (by rw[h2]; rfl),if_neg (by simp[h2]),part_ok hI.size hb.size,À]
   ·rw[Ø (bne_iff_ne.2 h2),if_pos h2]
  ·have e1:((Ŏ c.2.1.1 0)&&((Ŏ c.2.1.2 0)&&true))=false:=by
    rw[Prod.ext_iff] at h1;simp[Ŏ];dsimp only at h1;omega
   rw[e1,ø,if_neg h1,MX hI hv,À]
   by_cases h2:qi c=0
   ·rw[Ô (by rw[h2]; rfl),if_neg (by simp[h2]),part_ok hI.size hb.size,À]
   ·rw[Ø (bne_iff_ne.2 h2),if_pos h2]
 ·rw[Ø (by simp[ine,hc]),if_pos hc]
def OX (b:â) (l:List Int):List (Int×Int):=l.map fun i=>(ŷ b)[i.toNat]?.getD (0,0)
def ah9 {b:â} (hg:Ē b) (hn:∀g∈b.2.1,I64 g.2.2.2.2.1.1) {l:List Int} (hl:l.length≤1000) (hi:∀i∈l,0≤i∧i.toNat<(æ b).length):qW b l=some (OX b l):=by
 unfold qW El;rw[rk (hg.inn hn),À,jL hg];refine ô l (fun i=>OX b (l.take i)) _ rfl (fun i a hlt ha kn=>?_) (fun kn=>?_)
 ·try dsimp only
  unfold nq;have hx:=hi a (List.mem_of_getElem? ha);have hs:(ŷ b)[a.toNat]?=some ((ŷ b)[a.toNat]'(by rw[W4 hg]; exact hx.2)):=List.getElem?_eq_getElem _;generalize (ŷ b)[a.toNat]'(by rw[W4 hg]; exact hx.2)=x at hs
  have hlen:(OX b (l.take i)).length≤1000:=by unfold OX; rw[List.length_map,List.length_take]; omega
  rw[Ö hlt,Ì ha,iC hx.1 hs,ĩ (show î ((OX b (l.take i)).length+[x].length)=true from Ú (show(OX b (l.take i)).length+1≤4294967296 by omega)),Ï hlt (by omega),take_succ ha];unfold OX;rw[List.map_append,List.map_singleton,hs];rfl
 ·try dsimp only
  unfold nq;rw[ã,List.take_length]
def src_ok {b:â}:∀s∈ŷ b,apX b s:=by
 intro s hs;unfold ŷ at hs;rcases List.mem_append.1 hs with h|h
 ·have:=ac6 s h; exact .inl this
 ·have:=adt s h; exact .inr this
def amW {b:â} (hg:Ē b) {l:List Int} (hi:∀i∈l,0≤i∧i.toNat<(æ b).length):∀s∈OX b l,apX b s:=by
 intro s hs;obtain⟨i,h1,rfl⟩:=dS.1 hs;have hx:=hi i h1;have hsx:(ŷ b)[i.toNat]?=some ((ŷ b)[i.toNat]'(by rw[W4 hg]; exact hx.2)):=cO _;rw[hsx];exact src_ok _ (eO _)
section
variable {L:List Lk} {N:Nat}
def KW (R:Nat→List Int) (good:Int→Bool):∀(k:Nat) (u sum:Int) (out:List Int),(∀i∈out,0≤i∧i.toNat<L.length)→(∀i∈tC L R good k u sum out,0≤i∧i.toNat<L.length)∧(tC L R good k u sum out).length≤out.length+k
 |0,u,sum,out,h=>⟨h,by simp[tC]⟩
 |k+1,u,sum,out,h=>by
  unfold tC
  cases hn:Tv L (R k) good u sum with
  |none =>
   have:=KW R good k u sum out h;exact⟨this.1,by have:=this.2; dsimp only; omega⟩
  |some i =>
   have hi:i<L.length:=by
    unfold Tv at hn;exact(List.findIdx?_eq_some_iff_getElem.1 hn).1
   have:=KW R good k (L[i]?.getD (0,0,0)).2.1 (sum+(L[i]?.getD (0,0,0)).2.2) (out++[(i:Int)]) (fun j hj=>by
    rcases cX.1 hj with h1|h1
    ·exact h j h1
    ·simp at h1; subst h1; simp; exact hi)
   exact⟨this.1,by have:=this.2; simp at this; dsimp only; omega⟩
def adx (N:Nat) (u v:Int):(∀i∈(Tk L N u v).1,0≤i∧i.toNat<L.length)∧(Tk L N u v).1.length≤N:=by
 unfold Tk
 split
 ·simp
 ·cases h:(o9 L N v N).findIdx? (fun x=>gv x u==(iG L N u v).1) with
  |none=>simp
  |some k =>
   have hk:=(List.findIdx?_eq_some_iff_getElem.1 h).1;rw[lm] at hk;have:=KW (L:=L) (exL L N v) (fun n=>ieq n (iG L N u v).1) k u 0 [] (by simp);exact⟨this.1,by have:=this.2; simp at this; dsimp only; omega⟩
end
def MT (B:â) (n:Int×Int) (upper:Bool):List Int :=
 if upper then(Tk (æ B) ((Í B).length+1) 0 (wQ B n.1 n.2)).1 else(Tk (æ B) ((Í B).length+1) (wQ B n.1 n.2) 0).1
def yq (B:â) (n:Int×Int) (upper:Bool):â:=cutP B (OX B (MT B n upper)) [n]
def certR (B:â) (n:Int×Int) (upper:Bool):aoz:=(yq B n upper,n,upper,(if upper then(ivR B n).2 else(ivR B n).1),MT (yq B n upper) n upper)
def pM (b:â) (n:Int×Int) (upper:Bool):aoz×Int :=
 if (ù b [n]).2≠0 then(alE,(ù b [n]).2) else
 if è (yq (ù b [n]).1 n upper)≠0 then(alE,è (yq (ù b [n]).1 n upper)) else
 if Ğ (æ (yq (ù b [n]).1 n upper)) ((Í (yq (ù b [n]).1 n upper)).length+1) then(certR (ù b [n]).1 n upper,0) else(alE,9)
def ai3 {ρ:Type}:@tf ρ=@Č ρ:=rfl
def akd {ρ:Type} (K:Option ρ):Î (fun(v23:Int) kk25=>td (0:Int) v23 (fun u24=>kk25 u24) (fun _=>K)) (0:Int)=K:=by
 refine Ĕ (fun x=>x=0) (fun _=>0) (fun x hx=>.inl fun kn=>?_) rfl;rw[hx];rfl
def ago {B:â} (h:Ē B) (hn:∀g∈B.2.1,I64 g.2.2.2.2.1.1) (n:Int×Int) (upper:Bool):l9 (B,Og B) n upper=some (MT B n upper):=by
 unfold l9 wh MT;rw[S8 h hn,À,show(B,Og B).2=Og B from rfl,Jh]
 cases upper with
 |true=>rw[Ŋ,ah0 h.sys (iq B) (Θ B n),À]; rfl
 |false=>rw[ø,ah0 h.sys (Θ B n) (iq B),À]; rfl
def ai1 {B:â} (h:Ē B) (n:Int×Int) (upper:Bool):(∀i∈MT B n upper,0≤i∧i.toNat<(æ B).length)∧(MT B n upper).length≤60:=by
 have hN:=h.sys.n60;unfold MT
 split
 ·have:=adx (L:=æ B) ((Í B).length+1) 0 (wQ B n.1 n.2);exact⟨this.1,by have:=this.2; omega⟩
 ·have:=adx (L:=æ B) ((Í B).length+1) (wQ B n.1 n.2) 0;exact⟨this.1,by have:=this.2; omega⟩
def RU (w:List Int):∀(l:List Cmp) (i:Nat),∀c∈EP w i l,c∈l
 |[],i,c,h=>by simp[EP] at h
 |a::l,i,c,h=>by
  simp only[EP] at h
  split at h
  ·rcases dc.1 h with h|h
   ·rw[h]; simp
   ·exact f5 _ (RU w l (i+1) c h)
  ·exact f5 _ (RU w l (i+1) c h)
def aoM {b:â} (h:In b) (ss:List (Int×Int)) {looks:List (Int×Int)} (hl:looks.length≤1000):In (cutP b ss looks):=by
 obtain⟨hs,hn⟩:=h;have g1:=hs.gauges; have g2:=hs.uses; have g3:=hs.loans; have g4:=hs.compares;unfold cutP;refine⟨⟨?_,?_,?_,?_,hl,fun c hc=>hs.piles c (RU _ _ _ c hc)⟩,fun g hg=>hn g (List.mem_filter.1 hg).1⟩
 ·exact dG (dJ _ _) g1
 ·exact dG (dJ _ _) g2
 ·exact dG (dJ _ _) g3
 ·exact dG (RV _ _ _) g4
def ajr {b:â} (hI:In b) (n:Int×Int) (upper:Bool):wY b n upper=some (pM b n upper):=by
 unfold wY Eu pM;rw[ai3];refine(rB hI (ns:=[n]) (by simp) (fun e=>some (alE,e)) (fun e he=>by rw[ĩ (by simp[ine,he])]; rfl) (fun z he=>by rw[ĩ (by simp[ine,he])]; rfl) (fun _ _ _=>rfl)).trans ?_
 split
 ·rfl
 ·rename_i e;have hr:=(jw hI (by simpa using e)).1;dsimp only;generalize (ù b [n]).1=B at hr ⊢;have hci:=ai1 hr.good n upper;have hpi:In (yq B n upper):=aoM (hr.good.inn hr.num) _ (by simp)
  rw[wU,show((((Í B).length:Int)+1,æ B):Sys)=Og B from rfl,ago hr.good hr.num,À,ah9 hr.good hr.num (by omega) hci.1,À,
   cut_ok hr.good.size (by unfold OX; rw[List.length_map]; omega) (by simp) (amW hr.good hci.1),À,show cutP B (OX B (MT B n upper)) [n]=yq B n upper from rfl,jp hpi.size hpi.num,À]
  by_cases hc:è (yq B n upper)=0
  ·have hg:=(ó _).1 hc;rw[Ô (by simp[ine,hc]),if_neg (show ¬(è (yq B n upper)≠0) from fun h=>h hc)];refine(akd _).trans ?_;rw[rk hpi,À,jL hg,Ô (by rfl)];dsimp only;rw[show((((Í (yq B n upper)).length:Int)+1,æ (yq B n upper)):Sys)=Og (yq B n upper) from rfl,Jh (yq B n upper),Ja hg.sys,À]
   cases ho:Ğ (æ (yq B n upper)) ((Í (yq B n upper)).length+1) with
   |false=>rw[if_neg (by simp)]; rfl
   |true =>
    rw[if_pos rfl,←Jh (yq B n upper),Ô (by rfl),Wh hr,À,ago hg hpi.num,À]
    cases upper with
    |true=>rw[Ŋ,Ir hr,À]; rfl
    |false=>rfl
  ·rw[Ø (by simp[ine,hc]),if_pos hc,Ø (by simp[ine,hc])];rfl
def aiY {L:List Lk} {N:Nat} (h:ł L N) (ho:Ğ L N=true):Au ((N:Int),L)=some ([],5):=by
 have hN:=h.n60;unfold Au Q7;rw[mh h,À,Ô (by rfl),DH h.links h.n1 (by omega),À,if_pos ho];rfl
def aeu {b:â} (hg:Ē b) (hn:∀g∈b.2.1,I64 g.2.2.2.2.1.1) (ho:Ğ (æ b) ((Í b).length+1)=true):IJ b=some (alE,5):=by
 unfold IJ QU;rw[rk (hg.inn hn),À,jL hg,Ô (by rfl),show((((Í b).length:Int)+1,æ b),ŷ b,(0:Int)).1=Og b from rfl,Jh,aiY hg.sys ho,À];rfl
def alA {k:Int×Int} (hk:0<k.2) (m n:Int):0<aoP (FL k m) (FL k n)↔k.1*n<k.1*m:=by
 obtain⟨g,g0,_,g1,g2⟩:=AY (n:=k.1*m) hk;obtain⟨h,h0,_,h1,h2⟩:=AY (n:=k.1*n) hk
 have key:(FL k n).1*(FL k m).2<(FL k m).1*(FL k n).2↔k.1*n<k.1*m:=by
  have e1:(FL k n).1*(FL k m).2*((g:Int)*h)=k.1*n*k.2:=by
   show(oG (k.1*n) k.2).1*(oG (k.1*m) k.2).2*((g:Int)*h)=k.1*n*k.2
   calc _=((oG (k.1*n) k.2).1*h)*((oG (k.1*m) k.2).2*g):=by ac_rfl
    _=_:=by rw[←h1,←g2]
  have e2:(FL k m).1*(FL k n).2*((g:Int)*h)=k.1*m*k.2:=by
   show(oG (k.1*m) k.2).1*(oG (k.1*n) k.2).2*((g:Int)*h)=k.1*m*k.2
   calc _=((oG (k.1*m) k.2).1*g)*((oG (k.1*n) k.2).2*h):=by ac_rfl
    _=_:=by rw[←g1,←h2]
  have pg:0<(g:Int)*h:=Int.mul_pos (by omega) (by omega);constructor
  ·intro hl;have:=Int.mul_lt_mul_of_pos_right hl pg;rw[e1,e2] at this;exact Int.lt_of_mul_lt_mul_right this (by omega)
  ·intro hl;have:=Int.mul_lt_mul_of_pos_right hl hk;rw[←e1,←e2] at this;exact Int.lt_of_mul_lt_mul_right this (by omega)
 rw[←key];unfold aoP
 by_cases he:FL k m=FL k n
 ·rw[if_pos he,he];omega
 ·rw[if_neg he]
  split
  ·omega
  ·split<;>omega
def aii {k:Int×Int} (hk:0<k.2) {heat:Int×Int} (hh:heat.1≤heat.2):Xu k heat=if k.1<0 then(FL k heat.2,FL k heat.1) else(FL k heat.1,FL k heat.2):=by
 unfold Xu
 by_cases hn:k.1<0
 ·rw[if_pos hn]
  by_cases he:heat.1=heat.2
  ·rw[he]
   split<;>rfl
  ·rw[if_pos ((alA hk _ _).2 (Int.mul_lt_mul_of_neg_left (by omega) hn))]
 ·rw[if_neg hn,if_neg (fun h=>by
   have h1:=(alA hk _ _).1 h;have h2:=Int.mul_le_mul_of_nonneg_left hh (show 0≤k.1 by omega)
   omega)]
section
variable {b x:â}
def ain (hg:x.2.1=b.2.1) (hd:∀g∈b.2.1,à x g=à b g):Í x=Í b:=by
 unfold Í;rw[hg]
 have:∀l:List ñ,(∀g∈l,g∈b.2.1)→(l.flatMap fun g=>(à x g).map fun d=>((g.1,d):Int×Int))=l.flatMap fun g=>(à b g).map fun d=>((g.1,d):Int×Int):=by
  intro l
  induction l with
  |nil=>intro _; rfl
  |cons g t ih =>
   intro hl;rw[dN,dN,hd g (hl g (by simp)),ih fun g hg=>hl g (by simp[hg])]
 exact this _ fun g hg=>hg
end
section
variable {b:â} {c d:Cmp}
end
section
variable {b x:â}
end
section
variable {b:â} {c d:Cmp} {s:Int×Int}
def apc (h:Pred b c s) : -10000000000000000≤s.1∧s.1≤s.2∧s.2≤10000000000000000:=by
 have q:=h.good2.cmp (kv (c:=Â c));obtain⟨_,_,b1,b2,b3⟩:=nA (b:=b) h.good.film (c:=Â c) ⟨q.nums,q.r1,q.r2⟩;have e1:MK b c=EV (Ģ b (Â c)).1+(iD b (Â c)).1-(Â c).2.2.2.2.2.1:=rfl;have e2:oo b c=(Ģ b (Â c)).2.1 / (Ģ b (Â c)).2.2+(iD b (Â c)).2+(Â c).2.2.2.2.2.1:=rfl;have o:=h.order;have n:=h.ends;have bd:=h.bd;omega
end
def Ė (e:End):List Int:=[e.1-e.2.1,e.2.2-e.1,Int.tdiv (e.2.2-e.2.1) 2,Int.tdiv (e.2.2-e.2.1) 2-1,Int.tdiv (e.2.2-e.2.1) 2+1]
def t8 (e:End) (n:Int):List Int:=[n-e.2.1,e.2.2-n]
def atE (e:End) (d:Int):Int:=min e.1 (min (e.2.1+d) (e.2.2-d))
def jt (w:oA) (d:Int):Int×Int:=(-(atE w.2.2 d),atE w.2.1 d)
def aiK (r:Int×Int) (n:Int):List Int:=[n-2,n-1,n,n+1,n+2].filter fun d=>decide (r.1<d)&&decide (d<r.2)
def tZ (r:Int×Int) (l:List Int):List Int:=[r.1,r.2]++l.flatMap (aiK r)
def Ve (w:oA) (l:List Int):Int:=l.foldl (fun m d=>max m ((jt w d).2-(jt w d).1)) (-1)
def oT (w:oA):Int:=Ve w (tZ w.1 (Ė w.2.1++Ė w.2.2))
def Sm (n:Int):Prop:=-100000000000000000≤n∧n≤100000000000000000
structure aad (e:End):Prop where
 s:Sm e.1
 u:Sm e.2.1
 d:Sm e.2.2
structure E4 (w:oA):Prop where
 lo:Sm w.1.1
 hi:Sm w.1.2
 high:aad w.2.1
 low:aad w.2.2
def OT (n:Int) : -1≤n-2*Int.tdiv n 2∧n-2*Int.tdiv n 2≤1:=by
 have h1:=Int.tmod_add_mul_tdiv n 2;have h2:=Int.tmod_two_eq n;omega
def Od {e:End} (h:aad e):iY e=some (Ė e):=by
 obtain⟨⟨a1,a2⟩,⟨b1,b2⟩,c1,c2⟩:=h;have h2:=OT (e.2.2-e.2.1);unfold iY vX;rw[Õ (by omega) (by omega),Õ (by omega) (by omega),Õ (by omega) (by omega),Õ (by omega) (by omega),Õ (by omega) (by omega),Õ (by omega) (by omega)];rfl
def Oo {e:End} (h:aad e) {n:Int} (hn : -1000000000000000000≤n∧n≤1000000000000000000):iZ e n=some (t8 e n):=by
 obtain⟨⟨a1,a2⟩,⟨b1,b2⟩,c1,c2⟩:=h;unfold iZ vY;rw[Õ (by omega) (by omega),Õ (by omega) (by omega)];rfl
def aoW {e:End} (h:aad e) {d:Int} (hd:Sm d):vm e d=some (atE e d):=by
 obtain⟨⟨a1,a2⟩,⟨b1,b2⟩,c1,c2⟩:=h;obtain⟨d1,d2⟩:=hd;unfold vm J8;rw[Õ (by omega) (by omega),Õ (by omega) (by omega),tz,tz];unfold atE;congr 1;omega
def adT {e:End} (h:aad e) {d:Int} (hd:Sm d) : -200000000000000000≤atE e d∧atE e d≤100000000000000000:=by
 obtain⟨⟨a1,a2⟩,⟨b1,b2⟩,c1,c2⟩:=h;obtain⟨d1,d2⟩:=hd;unfold atE;omega
def ajL {w:oA} (h:E4 w) {d:Int} (hd:Sm d):Ŝ w d=some (jt w d):=by
 unfold Ŝ sX;have b1:=adT h.low hd;rw[aoW h.low hd,À,Õ (by omega) (by omega),aoW h.high hd,À];unfold jt;rw[Int.zero_sub]
def anF (r:Int×Int) (n:Int):(aiK r n).length≤5:=dJ _ _
def Si (r:Int×Int):∀l:List Int,(l.flatMap (aiK r)).length≤l.length*5
 |[]=>by simp
 |n::l=>by
  have h1:=anF r n;have h2:=Si r l;rw[dN,cW,df];omega
def apo {ρ:Type} (r:Int×Int) {n:Int} (hn : -4000000000000000000≤n∧n≤4000000000000000000) {out:List Int} (ho:out.length≤1000) (K:List Int→Option ρ) :
 Î (fun(v9:(Val (.pair tI (.slice tI)))) kk12=>iy n r.1 r.2 v9.1 v9.2 (fun u10 u11=>kk12 (u10,u11)) K) (n-2,out)=K (out++aiK r n):=by
 let five:List Int:=[n-2,n-1,n,n+1,n+2]
 have hg:∀(i:Nat),i<5→five[i]?=some (n-2+i):=by
  intro i hi
  have:i=0∨i=1∨i=2∨i=3∨i=4:=by omega
  rcases this with rfl|rfl|rfl|rfl|rfl<;>simp only[five,fk,List.getElem?_cons_succ]<;>congr 1<;>omega
 refine Ĕ (fun v=>∃i:Nat,i≤5∧v=(n-2+(i:Int),out++(five.take i).filter fun d=>decide (r.1<d)&&decide (d<r.2))) (fun v=>(n+3-v.1).toNat) ?_ ⟨0,by omega,by simp⟩;rintro v ⟨i,hi,rfl⟩;rcases dn i 5 with h5|h5
 ·refine .inr ⟨(n-2+((i+1:Nat):Int),out++(five.take (i+1)).filter fun d=>decide (r.1<d)&&decide (d<r.2)),⟨i+1,h5,rfl⟩,by dsimp only; omega,fun kn=>?_⟩;have hl:((five.take i).filter fun d=>decide (r.1<d)&&decide (d<r.2)).length≤5:=qQ _ five i;dsimp only;unfold iy;rw[Õ (by omega) (by omega),Ø (decide_eq_true (by omega)),take_succ (hg i h5),List.filter_append]
  have e0:n-2+(i:Int)+1=n-2+((i+1:Nat):Int):=by push_cast; omega
  by_cases h1:r.1<n-2+(i:Int)
  ·rw[Ø (show igt (n-2+(i:Int)) r.1=true from decide_eq_true h1)]
   by_cases h2:n-2+(i:Int)<r.2
   ·rw[Ø (show ilt (n-2+(i:Int)) r.2=true from decide_eq_true h2),ĩ (Ú (by rw[cW]; simp only[dE]; omega)),Õ (by omega) (by omega),e0];simp[h1,h2]
   ·rw[Ô (show ilt (n-2+(i:Int)) r.2=false from decide_eq_false h2),Õ (by omega) (by omega),e0];simp[h1,h2]
  ·rw[Ô (show igt (n-2+(i:Int)) r.1=false from decide_eq_false h1),Õ (by omega) (by omega),e0];simp[h1]
 ·refine .inl fun kn=>?_
  obtain rfl:i=5:=by omega
  dsimp only;unfold iy;rw[Õ (by omega) (by omega),Ô (decide_eq_false (by omega))];rfl
def aku (w:oA) {l:List Int} (hl:l.length≤100) (hn:∀n∈l,-2000000000000000000≤n∧n≤2000000000000000000):km w l=some (tZ w.1 l):=by
 unfold km sY;refine ô l (fun i=>[w.1.1,w.1.2]++(l.take i).flatMap (aiK w.1)) _ rfl (fun i n hi ha kn=>?_) (fun kn=>?_)
 ·try dsimp only
  unfold jR;have hb:=hn n (List.mem_of_getElem? ha);have h5:=Si w.1 (l.take i)
  have ht:(l.take i).length≤100:=by rw[dj]; omega
  rw[Ö hi,Ì ha,Õ (by omega) (by omega)];refine(apo w.1 (by omega) (by rw[cW]; simp only[df,dt]; omega) _).trans ?_;rw[Ï hi (by omega),take_succ ha,eX,dl];simp
 ·try dsimp only
  unfold jR;rw[ã,List.take_length];rfl
def rG {r:Int×Int} {l:List Int} {d:Int}:d∈tZ r l↔d=r.1∨d=r.2∨(r.1<d∧d<r.2∧∃n∈l,n-2≤d∧d≤n+2):=by
 unfold tZ aiK;simp only[List.mem_append,List.mem_cons,List.not_mem_nil,or_false,List.mem_flatMap,List.mem_filter,Bool.and_eq_true,decide_eq_true_eq];constructor
 ·rintro((h|h)|⟨n,hn,h,h1,h2⟩)
  ·exact .inl h
  ·exact .inr (.inl h)
  ·exact .inr (.inr ⟨h1,h2,n,hn,by omega,by omega⟩)
 ·rintro(h|h|⟨h1,h2,n,hn,h3,h4⟩)
  ·exact .inl (.inl h)
  ·exact .inl (.inr h)
  ·exact .inr ⟨n,hn,by omega,h1,h2⟩
def ag3 (r:Int×Int) {l:List Int} (hl:l.length≤100):(tZ r l).length≤600:=by
 have:=Si r l;unfold tZ;rw[List.length_append];simp only[List.length_cons,List.length_nil];omega
def akt {w:oA} (h:E4 w) {l:List Int}:∀d∈tZ w.1 l,Sm d:=by
 intro d hd;obtain⟨a1,a2⟩:=h.lo;obtain⟨b1,b2⟩:=h.hi;rcases rG.1 hd with h|h|⟨h1,h2,_⟩
 ·rw[h]; exact⟨a1,a2⟩
 ·rw[h]; exact⟨b1,b2⟩
 ·exact⟨by omega,by omega⟩
def Oe {e:End} (h:aad e):∀n∈Ė e,-1000000000000000000≤n∧n≤1000000000000000000:=by
 obtain⟨⟨a1,a2⟩,⟨b1,b2⟩,c1,c2⟩:=h;have h2:=OT (e.2.2-e.2.1);intro n hn;unfold Ė at hn;simp only[List.mem_cons,List.not_mem_nil,or_false] at hn;omega
def agl {w:oA} (h:E4 w):jH w=some (oT w):=by
 unfold jH qx
 have hl:([Ė w.2.1,Ė w.2.2]:List (List Int)).flatten=Ė w.2.1++Ė w.2.2:=by simp
 have hll:(Ė w.2.1++Ė w.2.2).length=10:=rfl
 rw[Od h.high,À,Od h.low,À,qg (by simp) (by rw[hl,hll]; omega),À,hl,aku w (by rw[hll]; omega) (fun n hn=>by
  rcases cX.1 hn with hn|hn
  ·have:=Oe h.high n hn; omega
  ·have:=Oe h.low n hn; omega),À]
 have hnl:=ag3 w.1 (l:=Ė w.2.1++Ė w.2.2) (by rw[hll]; omega);have hsm:=akt h (l:=Ė w.2.1++Ė w.2.2);unfold oT;generalize tZ w.1 (Ė w.2.1++Ė w.2.2)=l at hnl hsm ⊢;refine Ĕ (fun v=>∃i:Nat,i≤l.length∧v=(Ve w (l.take i),(i:Int))) (fun v=>l.length-v.2.toNat) ?_ ⟨0,by omega,rfl⟩;rintro v ⟨i,hi,rfl⟩;rcases Nat.lt_or_ge i l.length with h2|h2
 ·have ha:l[i]?=some l[i]:=List.getElem?_eq_getElem h2;have hs:=hsm l[i] (List.getElem_mem _);generalize l[i]=d at ha hs;refine .inr ⟨(Ve w (l.take (i+1)),((i+1:Nat):Int)),⟨i+1,h2,rfl⟩,by dsimp only; omega,fun kn=>?_⟩;dsimp only;unfold jn;have b1:=adT h.low hs;have b2:=adT h.high hs;rw[Ö h2,Ì ha,show Ŝ ((w.1.1,w.1.2),(w.2.1.1,w.2.1.2.1,w.2.1.2.2),w.2.2.1,w.2.2.2.1,w.2.2.2.2) d=Ŝ w d from rfl,ajL h hs,À,Õ (by unfold jt; dsimp only; omega) (by unfold jt; dsimp only; omega),Ï h2 (by omega),Zy,take_succ ha];unfold Ve;rw[List.foldl_append];rfl
 ·refine .inl fun kn=>?_
  obtain rfl:i=l.length:=by omega
  dsimp only;unfold jn;rw[ã,List.take_length]
def E8 {b:â} {n:Int×Int} {c:Cmp} (hp:(Þ b c).2=0):E4 (mo b n c):=by
 obtain⟨g1,g2⟩:=mf hp;have ho:=Lz hp;have hb:=apc (yn hp);have hx:=vv g2;have hy:=vu g2;have b6:=aev g1 g2 ho
 have key:∀{s t:Int},0≤s∧s<((Í (Ù b (Â c))).length+1:Nat)→0≤t∧t<((Í (Ù b (Â c))).length+1:Nat)→aad (apC b (Â c) s t):=by
  intro s t hs ht;have b1:=qM g1 g2 ho hs ht;have b2:=qM g1 g2 ho hs hy;have b3:=qM g1 g2 ho hx ht;have b4:=qM g1 g2 ho hs hx;have b5:=qM g1 g2 ho hy ht;unfold apC;exact⟨⟨by dsimp only; omega,by dsimp only; omega⟩,⟨by dsimp only; omega,by dsimp only; omega⟩,by dsimp only; omega,by dsimp only; omega⟩
 exact⟨⟨by show _≤(Þ b c).1.1; omega,by show(Þ b c).1.1≤_; omega⟩,⟨by show _≤(Þ b c).1.2; omega,by show(Þ b c).1.2≤_; omega⟩,key (iq _) (Θ _ n),key (Θ _ n) (iq _)⟩
def DC (b:â) (n:Int×Int) (c:Cmp):Int×Int :=
 if (ù b [n]).2≠0 then(0,(ù b [n]).2) else if (Þ (ù b [n]).1 c).2≠0 then(0,(Þ (ù b [n]).1 c).2) else(oT (mo (ù b [n]).1 n c),0)
def amK {ρ:Type}:@zB ρ=@Č ρ:=rfl
def ahP {b:â} (hI:In b) (n:Int×Int) {c:Cmp} (hA:c.2.2.1.length≤1000) (hB:c.2.2.2.1.length≤1000):ov b n c=some (DC b n c):=by
 unfold ov QO DC;rw[amK];refine(rB hI (ns:=[n]) (by simp) (fun e=>some ((0:Int),e)) (fun e he=>by rw[ĩ (by simp[ine,he])]) (fun z he=>by rw[ĩ (by simp[ine,he])]) (fun _ _ _=>rfl)).trans ?_
 split
 ·rfl
 ·rename_i e;have hr:=(jw hI (by simpa using e)).1;dsimp only;rw[wU,show((((Í (ù b [n]).1).length:Int)+1,æ (ù b [n]).1):Sys)=Og (ù b [n]).1 from rfl,Ii hr n hA hB,À];unfold KO
  by_cases hp:(Þ (ù b [n]).1 c).2=0
  ·rw[if_neg (by simp[hp]),if_neg (by simp[hp]),Ô (by rfl),agl (E8 hp),À]
  ·rw[if_pos hp,if_pos hp,Ø (bne_iff_ne.2 hp)]
def aju (x:Int):Int:=max (-288230376151711744) (min x 288230376151711744)
def DJ (w:oA) (l:Int×Int):List Int:=(Ė w.2.1++Ė w.2.2)++(t8 w.2.1 l.1++t8 w.2.2 (-l.1))++(t8 w.2.1 l.2++t8 w.2.2 (-l.2))
def agD (w:oA) (l:Int×Int):Bool:=(tZ w.1 (DJ w l)).all fun d=>ro (jt w d) l != 3
def OL (b:â) (n l:Int×Int) (c:Cmp):Bool×Int :=
 if (ù b [n]).2≠0 then(false,(ù b [n]).2) else if l.2<l.1 then(false,1) else if (Þ (ù b [n]).1 c).2≠0 then(false,(Þ (ù b [n]).1 c).2) else(agD (mo (ù b [n]).1 n c) (aju l.1,aju l.2),0)
def aia {ρ:Type}:@s9 ρ=@Č ρ:=rfl
def aoK (x:Int):l7 x=some (aju x):=by
 unfold l7 wc aju;rw[tz,Zy]
def Oq {e:End} (h:aad e) {n:Int} (hn : -300000000000000000≤n∧n≤300000000000000000):∀m∈t8 e n,-1000000000000000000≤m∧m≤1000000000000000000:=by
 obtain⟨⟨a1,a2⟩,⟨b1,b2⟩,c1,c2⟩:=h;intro m hm;unfold t8 at hm;simp only[List.mem_cons,List.not_mem_nil,or_false] at hm;omega
def ajj {b:â} (hI:In b) (n l:Int×Int) {c:Cmp} (hA:c.2.2.1.length≤1000) (hB:c.2.2.2.1.length≤1000):qX b n l c=some (OL b n l c):=by
 unfold qX Es OL;rw[aia];refine(rB hI (ns:=[n]) (by simp) (fun e=>some (false,e)) (fun e he=>by rw[Ø (by simp[ine,he])]) (fun z he=>by rw[Ø (by simp[ine,he])]) (fun _ _ _=>rfl)).trans ?_
 split
 ·rfl
 ·rename_i e;have hr:=(jw hI (by simpa using e)).1;dsimp only
  by_cases hl:l.2<l.1
  ·rw[Ø (by simp[igt,hl]),if_pos hl]
  ·rw[Ô (by simp[igt]; omega),if_neg hl,wU,show((((Í (ù b [n]).1).length:Int)+1,æ (ù b [n]).1):Sys)=Og (ù b [n]).1 from rfl,Ii hr n hA hB,À];unfold KO
   by_cases hp:(Þ (ù b [n]).1 c).2=0
   ·rw[if_neg (by simp[hp]),if_neg (by simp[hp]),Ô (by rfl)];have hw:=E8 (n:=n) hp;dsimp only;generalize mo (ù b [n]).1 n c=w at hw ⊢
    have f1 : -300000000000000000≤aju l.1∧aju l.1≤300000000000000000:=by unfold aju; omega
    have f2 : -300000000000000000≤aju l.2∧aju l.2≤300000000000000000:=by unfold aju; omega
    have q1:([Ė w.2.1,Ė w.2.2]:List (List Int)).flatten=Ė w.2.1++Ė w.2.2:=by simp
    have q2:∀x y z:List Int,([x,y,z]:List (List Int)).flatten=x++(y++z):=by intro x y z; simp
    rw[Od hw.high,À,Od hw.low,À,qg (by simp) (by rw[q1]; simp[Ė]),À,q1,aoK,À,aoK,À];generalize aju l.1=l1 at f1 ⊢;generalize aju l.2=l2 at f2 ⊢
    rw[Oo hw.high (by omega),À,Õ (by omega) (by omega),Int.zero_sub,Oo hw.low (by omega),À,qg (by simp) (by rw[q2]; simp[Ė,t8]),À,q2,
     Oo hw.high (by omega),À,Õ (by omega) (by omega),Int.zero_sub,Oo hw.low (by omega),À,qg (by simp) (by rw[q2]; simp[Ė,t8]),À,q2]
    have hll:(DJ w (l1,l2)).length=18:=rfl;have qs:Ė w.2.1++Ė w.2.2++(t8 w.2.1 l1++t8 w.2.2 (-l1))++(t8 w.2.1 l2++t8 w.2.2 (-l2))=DJ w (l1,l2):=rfl
    rw[qs,aku w (by rw[hll]; omega) (fun m hm=>by
     unfold DJ at hm;simp only[List.mem_append] at hm;rcases hm with((hm|hm)|(hm|hm))|(hm|hm)
     ·have:=Oe hw.high m hm; omega
     ·have:=Oe hw.low m hm; omega
     ·have:=Oq hw.high f1 m hm; omega
     ·have:=Oq hw.low (n:=-l1) (by omega) m hm; omega
     ·have:=Oq hw.high f2 m hm; omega
     ·have:=Oq hw.low (n:=-l2) (by omega) m hm; omega),À]
    have hnl:=ag3 w.1 (l:=DJ w (l1,l2)) (by rw[hll]; omega);have hsm:=akt hw (l:=DJ w (l1,l2));unfold agD;generalize tZ w.1 (DJ w (l1,l2))=ds at hnl hsm ⊢;refine(Ń ds (fun d=>ro (jt w d) (l1,l2)==3) (fun z30=>some ((!(ige z30 (0:Int))),(0:Int))) (some (false,0)) (some (true,0)) (fun j=>by rw[show ige (j:Int) 0=true from decide_eq_true (by omega)]; rfl) (fun i d hi hd kn=>?_) (fun kn=>?_)).trans ?_
    ·try dsimp only
     unfold nr;rw[Ö hi,Ì hd,show Ŝ ((w.1.1,w.1.2),(w.2.1.1,w.2.1.2.1,w.2.1.2.2),w.2.2.1,w.2.2.2.1,w.2.2.2.2) d=Ŝ w d from rfl,ajL hw (hsm d (List.mem_of_getElem? hd)),À,Vf,À,Ï hi (by omega),Ě]
    ·try dsimp only
     unfold nr;rw[ã]
    ·rw[show(fun d=>ro (jt w d) (l1,l2) != 3)=(fun d=>!(ro (jt w d) (l1,l2)==3)) from rfl,←List.not_any_eq_all_not]
     cases ds.any fun d=>ro (jt w d) (l1,l2)==3<;>rfl
   ·rw[if_pos hp,if_pos hp,Ø (bne_iff_ne.2 hp)]
def MW (b:â) (n:Int×Int):Prop:=∃g∈b.2.1,g.1=n.1∧n.2∈à b g
theorem anB {b:â} (h:Ē b) {n:Int×Int}:wQ b n.1 n.2≠0↔MW b n:=by
 unfold wQ;constructor
 ·intro hne
  cases hx:iP (Í b) n.1 n.2 with
  |none=>rw[hx] at hne; simp at hne
  |some j =>
   have hm:=List.mem_of_getElem? (kT hx).2;unfold Í at hm;obtain⟨g,hg,hd⟩:=List.mem_flatMap.1 hm;obtain⟨d,hd,e⟩:=List.mem_map.1 hd;simp only[Prod.mk.injEq] at e;obtain⟨e1,rfl⟩:=e;exact⟨g,hg,e1,hd⟩
 ·rintro⟨g,hg,e,hd⟩;obtain⟨i,hi,rfl⟩:=List.mem_iff_getElem.1 hg;obtain⟨k,hk,e2⟩:=List.mem_iff_getElem.1 hd;rw[←e,Xz h (List.getElem?_eq_getElem hi) (by rw[List.getElem?_eq_getElem hk,e2])];dsimp only;omega
theorem alt (b:â) (n:Int×Int) (g:ñ) {d:Int} (hd:d∈à b g):d∈à (jC b n) g:=by
 unfold à at hd ⊢;rw[rt] at hd ⊢;unfold ZK jC at *;simp only[List.mem_append,List.mem_map,List.mem_filter] at hd ⊢;rcases hd with(h|h)|⟨m,⟨h1,h2⟩,h3⟩
 ·exact .inl (.inl h)
 ·exact .inl (.inr h)
 ·exact .inr ⟨m,⟨.inl h1,h2⟩,h3⟩
theorem akK {b:â} (n:Int×Int) (h':Ē (jC b n)):MW (jC b n) n:=by
 have hu:=h'.looks n (by simp[jC]);unfold ah5 at hu
 split at hu
 ·omega
 obtain⟨g,hg,_⟩:=JC h' hu;obtain⟨hm,e⟩:=oq hg;refine⟨g,hm,e,?_⟩;unfold à;rw[rt];unfold ZK jC;simp only[List.mem_append,List.mem_map,List.mem_filter];exact .inr ⟨n,⟨.inr (by simp),by simp[e]⟩,rfl⟩
theorem OV {b:â} {n:Int×Int} (e:(j6 b n).2=0):(j6 b n=(b,0)∧wQ b n.1 n.2≠0)∨(j6 b n=(jC b n,0)∧Ē (jC b n)∧wQ b n.1 n.2=0):=by
 unfold j6 at e ⊢
 split
 ·rename_i h; exact .inl ⟨rfl,h⟩
 ·rename_i h1;rw[if_neg h1] at e
  split
  ·rename_i h2; rw[if_pos h2] at e; exact absurd e h2
  ·rename_i h2; exact .inr ⟨rfl,(ó _).1 (by simpa using h2),by simpa using h1⟩
theorem aaI:∀{ns:List (Int×Int)} {b:â},(ŕ b ns).2=0→∀n,MW b n→MW (ŕ b ns).1 n
 |[],b,_,n,hn=>hn
 |m::t,b,e,n,hn=>by
  unfold ŕ at e ⊢
  split
  ·rename_i h1; rw[if_pos h1] at e; exact absurd e h1
  ·rename_i h1;rw[if_neg h1] at e;refine aaI e n ?_;rcases OV (by simpa using h1) with⟨h,_⟩|⟨h,_,_⟩
   ·rw[h]; exact hn
   ·rw[h];obtain⟨g,hg,e1,hd⟩:=hn;exact⟨g,hg,e1,alt b m g hd⟩
theorem aaH:∀{ns:List (Int×Int)} {b:â},Ē b→(ŕ b ns).2=0→∀n∈ns,MW (ŕ b ns).1 n
 |[],b,_,_,n,hn=>by simp at hn
 |m::t,b,hg,e,n,hn=>by
  unfold ŕ at e ⊢
  split
  ·rename_i h1; rw[if_pos h1] at e; exact absurd e h1
  ·rename_i h1;rw[if_neg h1] at e
   have h1':(j6 b m).2=0:=by simpa using h1
   rcases dc.1 hn with rfl|hn
   ·refine aaI e n ?_;rcases OV h1' with⟨h,h2⟩|⟨h,h2,_⟩
    ·rw[h]; exact(anB hg).1 h2
    ·rw[h]; exact akK n h2
   ·exact aaH (aau hg h1') e n hn
theorem akL {b:â} {n:Int×Int} {f:Int→Int→Int} {z:Int}:aee (jC b n) f z↔aee b f z :=
 ⟨fun h=>⟨fun g hg=>by have:=h.gauge g hg; exact⟨this.hi,this.lo,this.down,this.loss⟩,h.cmp⟩,fun h=>⟨fun g hg=>by have:=h.gauge g hg; exact⟨this.hi,this.lo,this.down,this.loss⟩,h.cmp⟩⟩
theorem aaJ:∀{ns:List (Int×Int)} {b:â},(ŕ b ns).2=0→∀{f:Int→Int→Int} {z:Int},aee (ŕ b ns).1 f z↔aee b f z
 |[],b,_,f,z=>Iff.rfl
 |m::t,b,e,f,z=>by
  unfold ŕ at e ⊢
  split
  ·rename_i h1; rw[if_pos h1] at e; exact absurd e h1
  ·rename_i h1;rw[if_neg h1] at e;rw[aaJ e];rcases OV (by simpa using h1) with⟨h,_⟩|⟨h,_,_⟩
   ·rw[h]
   ·rw[h]; exact akL
section
variable {B:â} (h:aop B)
include h
end
structure Asked (b:â) (ns:List (Int×Int)) (B:â):Prop where
 room:aop B
 nodes:∀n∈ns,MW B n
 hist:∀{f:Int→Int→Int} {z:Int},aee B f z↔aee b f z
 good:Ē b
 gauges:B.2.1=b.2.1
theorem VF {b:â} (hI:In b) {ns:List (Int×Int)} (e:(ù b ns).2=0):Asked b ns (ù b ns).1:=by
 obtain⟨h1,h2,h3,h4⟩:=jw hI e;exact⟨h1,by rw[h2]; exact aaH h4 h3,by rw[h2]; exact aaJ h3,h4,by rw[h2]; exact vD h3⟩
def sQ (c:Cmp):Bool:=decide (c.2.2.1.length≤10)&&decide (c.2.2.2.1.length≤10)
theorem S0 (c:Cmp):pX c=some (sQ c):=by
 unfold pX JE sQ;rw[ä,ä,Ě]
 by_cases h:c.2.2.1.length≤10
 ·rw[if_pos (by simp[ile]; omega)];simp[ile,h];omega
 ·rw[if_neg (by simp[ile]; omega)];simp[h]
def fewP (b:â):Bool :=
 !((b.2.2.2.2.1.take 50).any fun c=>!sQ c)&&(decide (b.2.1.length≤14)&&(decide (b.2.2.1.length≤45)&&(decide (b.2.2.2.1.length≤14)&&(decide (b.2.2.2.2.1.length≤42)&&decide (b.2.2.2.2.2.length≤12)))))
theorem few_ok (b:â):OC b=some (fewP b):=by
 unfold OC XG
 have last:(ifb (ile (Û b.2.1) (14:Int)) (ifb (ile (Û b.2.2.1) (45:Int)) (ifb (ile (Û b.2.2.2.1) (14:Int)) (ifb (ile (Û b.2.2.2.2.1) (42:Int)) (some (ile (Û b.2.2.2.2.2) (12:Int))) (some false)) (some false)) (some false)) (some false)) =
  some (decide (b.2.1.length≤14)&&(decide (b.2.2.1.length≤45)&&(decide (b.2.2.2.1.length≤14)&&(decide (b.2.2.2.2.1.length≤42)&&decide (b.2.2.2.2.2.length≤12))))):=by
  have e:∀(n m:Nat),ile (n:Int) (m:Int)=decide (n≤m):=fun n m=>by simp[ile]
  rw[ä,ä,ä,ä,ä,show(14:Int)=((14:Nat):Int) from rfl,show(45:Int)=((45:Nat):Int) from rfl,show(42:Int)=((42:Nat):Int) from rfl,show(12:Int)=((12:Nat):Int) from rfl,e,e,e,e,e];generalize decide (b.2.1.length≤14)=x1;generalize decide (b.2.2.1.length≤45)=x2;generalize decide (b.2.2.2.1.length≤14)=x3;generalize decide (b.2.2.2.2.1.length≤42)=x4
  cases x1<;>cases x2<;>cases x3<;>cases x4<;>rfl
 rw[last];refine eV (Ń (b.2.2.2.2.1.take 50) (fun c=>!sQ c) (fun _=>some false) (some false) (some (decide (b.2.1.length≤14)&&(decide (b.2.2.1.length≤45)&&(decide (b.2.2.2.1.length≤14)&&(decide (b.2.2.2.2.1.length≤42)&&decide (b.2.2.2.2.2.length≤12)))))) (fun _=>rfl) (fun i c hi hc kn=>?_) (fun kn=>?_)) ?_
 ·try dsimp only
  unfold vJ;rw[List.length_take] at hi
  have hc':b.2.2.2.2.1[i]?=some c:=by rw[eh] at hc; split at hc<;>simp_all
  rw[Ö (show i<b.2.2.2.2.1.length by omega),Ø (decide_eq_true (by omega)),Ì hc',S0,À,Õ (by omega) (by omega),Ě]
 ·try dsimp only
  unfold vJ;rw[List.length_take,Ě]
  split
  ·rename_i h
   have h':50<b.2.2.2.2.1.length:=by rw[ä] at h; simp[ilt] at h; omega
   rw[Ô (decide_eq_false (by omega))]
  ·rfl
 ·unfold fewP
  cases List.any (List.take 50 b.2.2.2.2.1) (fun c=>!sQ c)<;>rfl
theorem anJ {b:â} (h:fewP b=true):Ž b:=by
 simp only[fewP,cR,eR,decide_eq_true_eq] at h;obtain⟨h0,h1,h2,h3,h4,h5⟩:=h;refine⟨by omega,by omega,by omega,by omega,by omega,fun c hc=>?_⟩;rw[dX (by omega)] at h0;have:=eG.1 h0 c hc;simp[sQ] at this;omega
section
variable {L:List Lk} {N:Nat} {x y H G:Int}
def anN (h:ł L N) (ht:I7 L N) (ho:Ğ L N=true) {s t:Int} (hs:0≤s∧s<N) (hv:0≤t∧t<N):∃vs,Wl L (fun u=>u=s) vs t (dst L N s t):=by
 have h2:=h.n60;obtain⟨p,hp⟩:=(œ h.links (by omega)).1 ho;obtain⟨vs,hw⟩:=(jK h.links (by omega) hp hs).att t hv.1 hv.2 (aht h ht ho hs hv);exact⟨vs,abj.1 hw⟩
def apG (h:ł L N) (ho:Ğ L N=true) {s t d:Int} (hs:0≤s∧s<N) {vs:List Int} (hw:Wl L (fun u=>u=s) vs t d):dst L N s t≤d:=by
 have h2:=h.n60;obtain⟨p,hp⟩:=(œ h.links (by omega)).1 ho;exact(jK h.links (by omega) hp hs).low t vs d (abj.2 hw)
end
def WZ {w:oA} {d:Int} (hd:w.1.1<d∧d<w.1.2) {l:List Int} (hn:d∉tZ w.1 l):∀n∈l,n+2<d∨d<n-2:=by
 intro n hm;rcases(show n+2<d∨d≤n+2 by omega) with h|h
 ·exact .inl h
 ·rcases(show d<n-2∨n-2≤d by omega) with h2|h2
  ·exact .inr h2
  ·exact absurd (rG.2 (.inr (.inr ⟨hd.1,hd.2,n,hm,by omega,by omega⟩))) hn
def AU (e:End) {d:Int} (h:∀n∈Ė e,n+2<d∨d<n-2):atE e (d+1)-atE e d=atE e d-atE e (d-1):=by
 have t1:=h (e.1-e.2.1) (by simp[Ė]);have t2:=h (e.2.2-e.1) (by simp[Ė]);have t3:=h (Int.tdiv (e.2.2-e.2.1) 2) (by simp[Ė]);have hh:=OT (e.2.2-e.2.1);generalize Int.tdiv (e.2.2-e.2.1) 2=k at t3 hh;unfold atE;omega
def Į (w:oA) (d:Int):Int:=(jt w d).2-(jt w d).1
def WX (w:oA):∀(l:List Int) (m:Int),m≤l.foldl (fun m d=>max m ((jt w d).2-(jt w d).1)) m∧∀d∈l,Į w d≤l.foldl (fun m d=>max m ((jt w d).2-(jt w d).1)) m
 |[],m=>⟨dw _,fun d h=>by simp at h⟩
 |a::l,m=>by
  have:=WX w l (max m ((jt w a).2-(jt w a).1));rw[fL];refine⟨by omega,fun d hd=>?_⟩;rcases dc.1 hd with rfl|hd
  ·unfold Į; omega
  ·exact this.2 d hd
def agm (w:oA):∀(l:List Int) (m:Int),l.foldl (fun m d=>max m ((jt w d).2-(jt w d).1)) m=m∨∃d∈l,l.foldl (fun m d=>max m ((jt w d).2-(jt w d).1)) m=Į w d
 |[],m=>.inl rfl
 |a::l,m=>by
  rw[fL];rcases agm w l (max m ((jt w a).2-(jt w a).1)) with h|⟨d,hd,h⟩
  ·rw[h]
   by_cases h2:m≤(jt w a).2-(jt w a).1
   ·exact .inr ⟨a,by simp,by unfold Į; omega⟩
   ·exact .inl (by omega)
  ·exact .inr ⟨d,by simp[hd],h⟩
def aks (w:oA) {l:List Int} (h1:∀n∈Ė w.2.1,n∈l) (h2:∀n∈Ė w.2.2,n∈l):∀(k:Nat) (d:Int),w.1.1≤d→d≤w.1.2 →
 ((w.1.2-d).toNat=k→(d=w.1.1∨Į w (d-1)≤Į w d)→∃e∈tZ w.1 l,Į w d≤Į w e):=by
 intro k
 induction k with
 |zero =>
  intro d a b hk _;exact⟨d,rG.2 (.inr (.inl (by omega))),dw _⟩
 |succ k ih =>
  intro d a b hk hs
  by_cases hn:d∈tZ w.1 l
  ·exact⟨d,hn,dw _⟩
  ·have hd:w.1.1<d∧d<w.1.2:=by
    constructor
    ·rcases gF a with h|h
     ·exact h
     ·exact absurd (rG.2 (.inl h.symm)) hn
    ·omega
   have t:=WZ hd hn;have s1:=AU w.2.1 fun n hm=>t n (h1 n hm);have s2:=AU w.2.2 fun n hm=>t n (h2 n hm)
   have hge:Į w d≤Į w (d+1):=by
    rcases hs with h|h
    ·omega
    ·unfold Į jt at h ⊢;dsimp only at h ⊢;omega
   obtain⟨e,he,hw⟩:=ih (d+1) (by omega) (by omega) (by omega) (.inr (by rw[show d+1-1=d by omega]; exact hge));exact⟨e,he,by omega⟩
def aio (w:oA) {l:List Int} (h1:∀n∈Ė w.2.1,n∈l) (h2:∀n∈Ė w.2.2,n∈l):∀(k:Nat) (d:Int),w.1.1≤d→d≤w.1.2 →
 ((d-w.1.1).toNat=k→(d=w.1.2∨Į w (d+1)≤Į w d)→∃e∈tZ w.1 l,Į w d≤Į w e):=by
 intro k
 induction k with
 |zero =>
  intro d a b hk _;exact⟨d,rG.2 (.inl (by omega)),dw _⟩
 |succ k ih =>
  intro d a b hk hs
  by_cases hn:d∈tZ w.1 l
  ·exact⟨d,hn,dw _⟩
  ·have hd:w.1.1<d∧d<w.1.2:=by
    constructor
    ·omega
    ·rcases gF b with h|h
     ·exact h
     ·exact absurd (rG.2 (.inr (.inl h))) hn
   have t:=WZ hd hn;have s1:=AU w.2.1 fun n hm=>t n (h1 n hm);have s2:=AU w.2.2 fun n hm=>t n (h2 n hm)
   have hge:Į w d≤Į w (d-1):=by
    rcases hs with h|h
    ·omega
    ·unfold Į jt at h ⊢;dsimp only at h ⊢;omega
   obtain⟨e,he,hw⟩:=ih (d-1) (by omega) (by omega) (by omega) (.inr (by rw[show d-1+1=d by omega]; exact hge));exact⟨e,he,by omega⟩
def ajz (w:oA) {d:Int} (h1:w.1.1≤d) (h2:d≤w.1.2):Į w d≤oT w:=by
 have t1:∀n∈Ė w.2.1,n∈Ė w.2.1++Ė w.2.2:=fun n h=>cX.2 (.inl h);have t2:∀n∈Ė w.2.2,n∈Ė w.2.1++Ė w.2.2:=fun n h=>cX.2 (.inr h)
 have:∃e∈tZ w.1 (Ė w.2.1++Ė w.2.2),Į w d≤Į w e:=by
  by_cases hs:d=w.1.1∨Į w (d-1)≤Į w d
  ·exact aks w t1 t2 _ d h1 h2 rfl hs
  ·by_cases hs2:d=w.1.2∨Į w (d+1)≤Į w d
   ·exact aio w t1 t2 _ d h1 h2 rfl hs2
   ·by_cases hn:d∈tZ w.1 (Ė w.2.1++Ė w.2.2)
    ·exact⟨d,hn,dw _⟩
    ·have hd:w.1.1<d∧d<w.1.2:=by omega
     have t:=WZ hd hn;have s1:=AU w.2.1 fun n hm=>t n (t1 n hm);have s2:=AU w.2.2 fun n hm=>t n (t2 n hm);exfalso;unfold Į jt at hs hs2;dsimp only at hs hs2;omega
 obtain⟨e,he,hw⟩:=this;have:=(WX w (tZ w.1 (Ė w.2.1++Ė w.2.2)) (-1)).2 e he;unfold oT Ve;omega
def amJ (w:oA) (hr:w.1.1≤w.1.2) (hw:∀d,w.1.1≤d→d≤w.1.2→0≤Į w d):∃d,w.1.1≤d∧d≤w.1.2∧oT w=Į w d:=by
 unfold oT Ve;rcases agm w (tZ w.1 (Ė w.2.1++Ė w.2.2)) (-1) with h|⟨d,hd,h⟩
 ·have h1:=(WX w (tZ w.1 (Ė w.2.1++Ė w.2.2)) (-1)).2 w.1.1 (rG.2 (.inl rfl));have h2:=hw w.1.1 (dw _) hr;omega
 ·refine⟨d,?_,?_,h⟩<;>rcases rG.1 hd with q|q|⟨q1,q2,_⟩<;>omega
inductive Wk (L:List Lk) (to:Int):Nat→Int→Int→Prop
 |nil:Wk L to 0 to 0
 |step {k:Nat} {v w m d:Int}:(v,w,m)∈L→Wk L to k w d→Wk L to (k+1) v (m+d)
section
variable {L:List Lk} {N:Nat}
def Wk.snoc {u v m:Int} (hl:(u,v,m)∈L):∀{k:Nat} {s d:Int},Wk L u k s d→Wk L v (k+1) s (d+m):=by
 intro k s d h
 induction h with
 |nil =>
  have:=Wk.step hl (Wk.nil (L:=L) (to:=v))
  have e:m+0=0+m:=by omega
  rw[e] at this;exact this
 | @step k a w m' d h1 h2 ih =>
  have:=Wk.step h1 ih
  have e:m'+(d+m)=m'+d+m:=by omega
  rw[e] at this;exact this
def Wl.front {s w m:Int} (hl:(s,w,m)∈L) {vs:List Int} {t d:Int} (h:Wl L (fun u=>u=w) vs t d):Wl L (fun u=>u=s) (vs++[s]) t (m+d):=by
 induction h with
 | @nil v hv =>
  have hv':v=w:=hv;subst hv';have:=Wl.step (Wl.nil (L:=L) (S:=fun u=>u=s) rfl) hl
  have e:0+m=m+0:=by omega
  rw[e] at this;exact this
 | @step vs u v m' d h1 h2 ih =>
  have:=Wl.step ih h2
  have e:m+d+m'=m+(d+m'):=by omega
  rw[e] at this;exact this
def Wk.wl {t:Int} {k:Nat} {s d:Int} (h:Wk L t k s d):∃vs,vs.length=k∧Wl L (fun u=>u=s) vs t d:=by
 induction h with
 |nil=>exact⟨[],rfl,.nil rfl⟩
 | @step k v w m d h1 h2 ih =>
  obtain⟨vs,e,h⟩:=ih;exact⟨vs++[v],by simp[e],h.front h1⟩
def anu {P:Int→Prop} {B:Int} (h:∃d,P d) (hB:∀d,P d→B≤d):∃d,P d∧∀e,P e→d≤e:=by
 obtain⟨d0,h0⟩:=h
 have:∀(n:Nat) (d:Int),P d→(d-B).toNat≤n→∃d,P d∧∀e,P e→d≤e:=by
  intro n
  induction n with
  |zero=>intro d hd hn; exact⟨d,hd,fun e he=>by have:=hB e he; have:=hB d hd; omega⟩
  |succ n ih =>
   intro d hd hn
   by_cases hx:∃e,P e∧e<d
   ·obtain⟨e,he,hl⟩:=hx;exact ih e he (by have:=hB e he; omega)
   ·exact⟨d,hd,fun e he=>by
     rcases gD e d with q|q
     ·exact absurd ⟨e,he,q⟩ hx
     ·exact q⟩
 exact this _ d0 h0 (cQ _)
def Wl.cutK {S:Int→Prop} {vs:List Int} {u d:Int} (h:Wl L S vs u d):∀x∈u::vs,∃vs1 d1 k d2,Wl L S vs1 x d1∧(x::vs1) <:+ (u::vs)∧Wk L u k x d2∧d=d1+d2∧k≤vs.length:=by
 induction h with
 | @nil v hv =>
  intro x hx;simp at hx;subst hx;exact⟨[],0,0,0,.nil hv,List.suffix_refl _,.nil,by omega,by simp⟩
 | @step vs u v m d hw hl ih =>
  intro x hx;rcases dc.1 hx with rfl|hx
  ·exact⟨u::vs,d+m,0,0,.step hw hl,List.suffix_refl _,.nil,by omega,by simp⟩
  ·obtain⟨vs1,d1,k,d2,g1,g2,g3,g4,g5⟩:=ih x hx;exact⟨vs1,d1,k+1,d2+m,g1,g2.trans (List.suffix_cons _ _),g3.snoc hl,by omega,by simp; omega⟩
def VJ (hS:ł L N) (hno:Ğ L N=false):∃(k:Nat) (v d:Int),1≤k∧k≤N∧(0≤v∧v<N)∧Wk L v k v d∧d<0:=by
 have hn:=hS.n60;apply Classical.byContradiction;intro hc
 have hcl:∀{k:Nat} {v d:Int},1≤k→k≤N→(0≤v∧v<N)→Wk L v k v d→0≤d:=fun {k v d} h1 h2 h3 h4=>by
  rcases gD d 0 with q|q
  ·exact absurd ⟨k,v,d,h1,h2,h3,h4,q⟩ hc
  ·exact q
 have hinr:∀l∈L,-4503599627370496≤l.2.2:=fun l hl=>(hS.most l hl).1
 let P:Int→Int→Prop:=fun v d=>∃vs,Wl L (fun u=>0≤u∧u<N) vs v d∧(v::vs).Nodup
 have hP:∀v:Int,0≤v∧v<N→∃d,P v d∧∀e,P v e→d≤e:=fun v hv=>anu (B:=-(60*4503599627370496)) ⟨0,[],.nil hv,by simp⟩ (by
  rintro d ⟨vs,h1,h2⟩;have q1:=h1.lowM hinr;have q2:=h1.short hS.inr (fun w hw=>hw) h2
  have:((vs.length:Nat):Int)*4503599627370496≤60*4503599627370496:=by omega
  omega)
 have ho:Ğ L N=true:=by
  refine(œ hS.links (by omega)).2 ⟨fun v=>if hv:0≤v∧v<(N:Int) then Classical.choose (hP v hv) else 0,fun u v m hl=>?_⟩;have hr:=hS.inr _ hl;dsimp only at hr;obtain⟨⟨vs,hw,hnd⟩,hu2⟩:=Classical.choose_spec (hP u hr.1);obtain⟨_,hv2⟩:=Classical.choose_spec (hP v hr.2);have e1:(if hv:0≤u∧u<(N:Int) then Classical.choose (hP u hv) else 0)=Classical.choose (hP u hr.1):=dif_pos hr.1;have e2:(if hv:0≤v∧v<(N:Int) then Classical.choose (hP v hv) else 0)=Classical.choose (hP v hr.2):=dif_pos hr.2;dsimp only;rw[e1,e2];generalize Classical.choose (hP u hr.1)=a at *;generalize Classical.choose (hP v hr.2)=b at *
  by_cases hv:v∈u::vs
  ·obtain⟨vs1,d1,k,d2,g1,g2,g3,g4,g5⟩:=hw.cutK v hv;have hlen:=hw.short hS.inr (fun w hw=>hw) hnd;have:=hcl (by omega) (by omega) hr.2 (g3.snoc hl);have:=hv2 d1 ⟨vs1,g1,hnd.sublist g2.sublist⟩;omega
  ·have:=hv2 (a+m) ⟨u::vs,hw.step hl,fX.2 ⟨hv,hnd⟩⟩;omega
 rw[hno] at ho;cases ho
end
def ai2 {b:â} (h:In b) (n:Int×Int) (upper:Bool):In (pM b n upper).1.1:=by
 have h0:In lu:=⟨⟨by simp[lu],by simp[lu],by simp[lu],by simp[lu],by simp[lu],by simp[lu]⟩,by simp[lu]⟩;unfold pM
 by_cases e:(ù b [n]).2=0
 ·rw[if_neg (by simp[e])];have hr:=(jw h e).1
  split
  ·exact h0
  ·split
   ·exact aoM (hr.good.inn hr.num) _ (by simp)
   ·exact h0
 ·rw[if_pos e]; exact h0
def y1:I9 exB (2,10)=((984,1011),0):=by decide +kernel
def y2:I9 exB (1,30)=((964,1005),0):=by decide +kernel
def y3:aag exB (1,10) (2,10)=((-6,11),0):=by decide +kernel
def y4:ap2 exB 10 [1,2]=((1979,2018),0):=by decide +kernel
def y5:amA exB (2,0) (990,1010)=(3,0):=by decide +kernel
def y6:(pM exB (2,10) true).2=0∧(pM exB (2,10) true).1.2.2.2.1=1011:=by decide +kernel
def y7:DC exB (2,10) exC=(10,0):=by decide +kernel
def y8:OL exB (2,10) (900,1100) exC=(true,0):=by decide +kernel
def y9:aga exB (pM exB (2,10) true).1=(true,0):=by decide +kernel
def y10:è exB=0∧Ğ (æ exB) ((Í exB).length+1)=true:=by decide +kernel
def y11:qi (pM exB (2,10) true).1=0:=by decide +kernel
def Vm:Ð=some true:=by
 unfold Ð D1 Ao yA;have hc:=ai2 Ay (2,10) true
 have hv:I64 (pM exB (2,10) true).1.2.2.2.1:=by rw[y6.2]; unfold I64; omega
 rw[À];rw[show((((0:Int),(2:Int)),[((1:Int),(0:Int),(1000:Int),((-5:Int),(5:Int)),((1:Int),(10:Int)),(1:Int)),((2:Int),(0:Int),(1000:Int),((-50:Int),(50:Int)),((1:Int),(4:Int)),(0:Int))],[((1:Int),(10:Int))],[((1:Int),((20:Int),(29:Int)),(3:Int))],[((7:Int),(10:Int),[(1:Int)],[(2:Int)],(-20:Int),(1:Int),(100:Int),(200:Int))],([]:List (Int×Int))):â)=exB from rfl];rw[Ti Ay,À,Ti Ay,À,ajs Ay,À,ap1 Ay _ (by decide),À,aoy Ay,À,ajr Ay,À,y1,y2,y3,y4,y5,y6.1,y6.2]
 rw[show ov exB ((2:Int),(10:Int)) ((8:Int),(10:Int),[(1:Int)],[(2:Int)],(0:Int),(0:Int),(0:Int),(0:Int))=some (DC exB (2,10) exC) from ahP Ay _ (c:=exC) (by decide) (by decide),
  show qX exB ((2:Int),(10:Int)) ((900:Int),(1100:Int)) ((8:Int),(10:Int),[(1:Int)],[(2:Int)],(0:Int),(0:Int),(0:Int),(0:Int))=some (OL exB (2,10) (900,1100) exC) from ajj Ay _ _ (c:=exC) (by decide) (by decide),
  amg Ay hc hv,aeu ((ó _).1 y10.1) Ay.num y10.2,MX hc hv,y7,y8,y9,y11]
 rfl
theorem OZ {L:List Lk} {N:Nat} {v:Int} (h0:0≤v) (h1:v<N):gv (solP L N) v=gv (į L N) v-gv (į L N) 0:=by
 have hl:(į L N).length=N:=by unfold į; rw[ÿ,ê]
 have h2:v.toNat<(į L N).length:=by omega
 unfold solP;generalize gv (į L N) 0=z;unfold gv;rw[List.getElem?_map,List.getElem?_eq_getElem h2];rfl
theorem am0 {L:List Lk} {N:Nat} (h:ł L N) (ho:Ğ L N=true):Pot L (gv (solP L N))∧gv (solP L N) 0=0:=by
 have h2:=h.n60;have h1:=h.n1;obtain⟨p,hp⟩:=(œ h.links (by omega)).1 ho;refine⟨fun u v m hl=>?_,by rw[OZ (by omega) (by omega)]; omega⟩;have hr:=h.inr _ hl
 have hlen:(į L N).length=N:=by unfold į; rw[ÿ,ê]
 have hu:gv (į L N) u≤0:=(W7 h.links (by omega) ho _ (List.mem_of_getElem? (Wo (by omega)))).2;have:=(AW h.links (by omega) hp).pot h.inr hl (by show gv (į L N) u≠ĸ; unfold ĸ; omega);have e1:=OZ (L:=L) hr.1.1 hr.1.2;have e2:=OZ (L:=L) hr.2.1 hr.2.2;dsimp only at e1 e2;have e:gv (į L N) v≤gv (į L N) u+m:=this;omega
section
variable {B:â} (h:aop B)
include h
end
def Tm (N:Nat) (g:Int→Int):List Int:=(List.range N).map fun(v:Nat)=>g v
def BK (N:Nat) (f:Int→Int→Int):List (List Int):=(List.range N).map fun(u:Nat)=>Tm N (f u)
section
variable {N:Nat} {ρ:Type}
def am9 (g:Int→Int):(Tm N g).length=N:=by simp[Tm]
def amV (f:Int→Int→Int):(BK N f).length=N:=by simp[BK]
def ph (g:Int→Int):ĉ (Tm N g)=(N:Int):=by unfold ĉ; rw[am9]
def vH (f:Int→Int→Int):ĉ (BK N f)=(N:Int):=by unfold ĉ; rw[amV]
def agH (g:Int→Int) {v:Int} (h0:0≤v) (h1:v<N):(Tm N g)[v.toNat]?=some (g v):=by
 unfold Tm;rw[List.getElem?_map,List.getElem?_range (by omega),Option.map_some,show((v.toNat:Nat):Int)=v by omega]
def agz (f:Int→Int→Int) {u:Int} (h0:0≤u) (h1:u<N):(BK N f)[u.toNat]?=some (Tm N (f u)):=by
 unfold BK;rw[List.getElem?_map,List.getElem?_range (by omega),Option.map_some,show((u.toNat:Nat):Int)=u by omega]
def rE (f:Int→Int→Int) {u:Int} (h0:0≤u) (h1:u<N) (K:List Int→Option ρ):Ĺ (BK N f) u.toNat K=K (Tm N (f u)):=nk (agz f h0 h1) K
def nj (g:Int→Int) {v:Int} (h0:0≤v) (h1:v<N) (K:Int→Option ρ):Ĺ (Tm N g) v.toNat K=K (g v):=nk (agH g h0 h1) K
def Xb {g g':Int→Int} (h:∀v:Int,0≤v→v<N→g v=g' v):Tm N g=Tm N g':=by
 unfold Tm;refine List.map_congr_left fun v hv=>?_;have:=List.mem_range.1 hv;exact h v (by omega) (by omega)
def sS {f f':Int→Int→Int} (h:∀u v:Int,0≤u→u<N→0≤v→v<N→f u v=f' u v):BK N f=BK N f':=by
 unfold BK;refine List.map_congr_left fun u hu=>?_;have:=List.mem_range.1 hu;exact Xb fun v h0 h1=>h u v (by omega) (by omega) h0 h1
def ajP {α:Type} (F:Nat→α) (N i:Nat) (x:α):((List.range N).map F).set i x=(List.range N).map fun j=>if j=i then x else F j:=by
 refine List.ext_getElem? fun j=>?_;rw[f0,fM,fM];rcases dn j N with hj|hj
 ·rw[ft hj]
  by_cases h:i=j
  ·subst h;rw[if_pos rfl,if_pos (by simpa using hj)];simp
  ·rw[if_neg h];simp[Ne.symm h]
 ·rw[fW (l:=List.range N) (by simpa using hj)]
  by_cases h:i=j
  ·subst h;rw[if_pos rfl,if_neg (by simp; omega)];rfl
  ·rw[if_neg h];rfl
def aer (g:Int→Int) {v:Int} (h0:0≤v) (x:Int):(Tm N g).set v.toNat x=Tm N fun b=>if b=v then x else g b:=by
 unfold Tm;rw[ajP];refine List.map_congr_left fun j _=>?_
 by_cases h:j=v.toNat
 ·rw[if_pos h]; exact(if_pos (by omega)).symm
 ·rw[if_neg h]; exact(if_neg (by omega)).symm
def ajO (f:Int→Int→Int) {u v:Int} (h0:0≤u) (h1:0≤v) (x:Int):(BK N f).set u.toNat ((Tm N (f u)).set v.toNat x)=BK N fun a b=>if a=u∧b=v then x else f a b:=by
 rw[aer _ h1];unfold BK;rw[ajP];refine List.map_congr_left fun j _=>?_
 by_cases h:j=u.toNat
 ·have hj:(j:Int)=u:=by omega
  rw[if_pos h,hj];congr 1;funext b
  by_cases hb:b=v<;>simp[hb]
 ·rw[if_neg h];congr 1;funext b;exact(if_neg (by omega)).symm
end
inductive WI (L:List Lk) (k u:Int):Int→Int→Prop
 |nil:WI L k u u 0
 |one {v m:Int}:(u,v,m)∈L→WI L k u v m
 |step {w v d m:Int}:WI L k u w d→0≤w→w<k→(w,v,m)∈L→WI L k u v (d+m)
section
variable {L:List Lk} {N:Nat} {k u:Int}
def WI.mono {k':Int} (hk:k≤k') {v d:Int} (h:WI L k u v d):WI L k' u v d:=by
 induction h with
 |nil=>exact .nil
 |one h=>exact .one h
 |step _ h0 h1 h2 ih=>exact ih.step h0 (by omega) h2
def WI.app {w v d e:Int} (h1:WI L k u w d) (h2:WI L k w v e) (h0:0≤w) (hk:w<k):WI L k u v (d+e):=by
 induction h2 with
 |nil=>rw[gp]; exact h1
 |one h=>exact h1.step h0 hk h
 | @step x v e m _ g0 g1 g2 ih =>
  have:=ih.step g0 g1 g2;rw[Int.add_assoc] at this;exact this
def WI.wl {v d:Int} (h:WI L k u v d):∃vs,Wl L (fun x=>x=u) vs v d:=by
 induction h with
 |nil=>exact⟨[],.nil rfl⟩
 | @one v m h =>
  have:=Wl.step (Wl.nil (L:=L) (S:=fun x=>x=u) rfl) h;rw[Int.zero_add] at this;exact⟨_,this⟩
 |step _ _ _ h2 ih =>
  obtain⟨vs,h⟩:=ih;exact⟨_,h.step h2⟩
def WI.of_wl (hL:InR L N) (hk:(N:Int)≤k) {vs:List Int} {v d:Int} (h:Wl L (fun x=>x=u) vs v d):WI L k u v d:=by
 induction h with
 |nil h =>
  obtain rfl:=h;exact .nil
 | @step vs w v m d _ h2 ih =>
  have:=(hL _ h2).1;exact ih.step this.1 (by dsimp only at this; omega) h2
def WI.of_wk (hL:InR L N) (hk:(N:Int)≤k) {n:Nat} {v d:Int} (h:Wk L v n u d):WI L k u v d:=by
 obtain⟨vs,_,h⟩:=h.wl;exact .of_wl hL hk h
def Wl.shorten {S:Int→Prop} {vs:List Int} {v d:Int} (h:Wl L S vs v d):∃vs' d',Wl L S vs' v d'∧(v::vs').Nodup:=by
 have h1:∀{vs:List Int} {v d:Int},Wl L S vs v d→Wl (L.map fun l=>(l.1,l.2.1,0)) S vs v 0:=fun h=>by
  induction h with
  |nil h=>exact .nil h
  | @step vs w v m d _ h2 ih =>
   have:=ih.step (v:=v) (m:=0) (dS.2 ⟨_,h2,rfl⟩);exact this
 have h2:∀{vs:List Int} {v d:Int},Wl (L.map fun l=>(l.1,l.2.1,0)) S vs v d→∃d',Wl L S vs v d':=fun h=>by
  induction h with
  |nil h=>exact⟨0,.nil h⟩
  | @step vs w v m d _ h2 ih =>
   obtain⟨d',h⟩:=ih;obtain⟨l,hl,e⟩:=dS.1 h2;obtain⟨a,b,c⟩:=l;simp only[Prod.mk.injEq] at e;obtain⟨rfl,rfl,rfl⟩:=e;exact⟨_,h.step hl⟩
 obtain⟨vs',d',g1,_,g3⟩:=(h1 h).simple (p:=fun _=>0) (fun a b m hm=>by
  obtain⟨l,_,e⟩:=List.mem_map.1 hm;simp only[Prod.mk.injEq] at e;dsimp only
  omega)
 obtain⟨d'',g4⟩:=h2 g1;exact⟨vs',d'',g4,g3⟩
def aid (L:List Lk) (k u v:Int):List Lk:=L.filter fun l=>(l.1==u||(decide (0≤l.1)&&decide (l.1<k)))&&(l.2.1==v||(decide (0≤l.2.1)&&decide (l.2.1<k)))
def tP {v:Int} {l:Lk}:l∈aid L k u v↔l∈L∧(l.1=u∨(0≤l.1∧l.1<k))∧(l.2.1=v∨(0≤l.2.1∧l.2.1<k)):=by
 unfold aid;rw[List.mem_filter];simp
def WI.rest (v:Int) {w d:Int} (h:WI L k u w d):(w=v∨(0≤w∧w<k))→∃vs,Wl (aid L k u v) (fun x=>x=u) vs w d:=by
 induction h with
 |nil=>exact fun _=>⟨[],.nil rfl⟩
 | @one w m h =>
  intro hw;have:=Wl.step (Wl.nil (L:=aid L k u v) (S:=fun x=>x=u) rfl) (tP.2 ⟨h,.inl rfl,hw⟩);rw[Int.zero_add] at this;exact⟨_,this⟩
 | @step x w d m _ h0 h1 h2 ih =>
  intro hw;obtain⟨vs,h⟩:=ih (.inr ⟨h0,h1⟩);exact⟨_,h.step (tP.2 ⟨h2,.inr ⟨h0,h1⟩,hw⟩)⟩
def WI.of_rest {v:Int} {vs:List Int} {w d:Int} (h:Wl (aid L k u v) (fun x=>x=u) vs w d):v∉vs→WI L k u w d:=by
 induction h with
 |nil h =>
  obtain rfl:=h;exact fun _=>.nil
 | @step vs x w m d h1 h2 ih =>
  intro hv;obtain⟨g1,g2,g3⟩:=tP.1 h2;have ih':=ih fun h=>hv (by simp[h]);have hxv:x≠v:=fun e=>hv (by simp[e])
  cases h1 with
  |nil h =>
   obtain rfl:=h;rw[Int.zero_add];exact .one g1
  |step h3 h4 =>
   obtain⟨_,_,g4⟩:=tP.1 h4;rcases g4 with g4|g4
   ·exact absurd g4 hxv
   ·exact ih'.step g4.1 g4.2 g1
def WI.high (hS:ł L N) {v d:Int} (hu:0≤u∧u<N) (h:WI L k u v d):∃d',WI L k u v d'∧d'≤270215977642229760:=by
 have hn:=hS.n60;obtain⟨vs,hw⟩:=h.rest v (.inl rfl);obtain⟨vs',d',h1,h2⟩:=hw.shorten;have hin:InR (aid L k u v) N:=fun l hl=>hS.inr l (tP.1 hl).1;have hlen:=h1.short hin (fun w hw=>by rw[hw]; exact hu) h2;have hhi:=h1.high (M:=4503599627370496) fun l hl=>(hS.most l (tP.1 hl).1).2;refine⟨d',.of_rest h1 (fX.1 h2).1,?_⟩;omega
def aiB (L:List Lk) (k:Int):List Lk:=L.filter fun l=>decide (l.1<k)&&decide (l.2.1<k)
def Zr {l:Lk}:l∈aiB L k↔l∈L∧l.1<k∧l.2.1<k:=by
 unfold aiB;rw[List.mem_filter];simp
def ag9 (hS:ł L N):ł (aiB L k) N:=hS.sub (fun l hl=>(Zr.1 hl).1) (dJ _ _)
def WI.of_low (hS:ł L N) {v d:Int} {n:Nat} (h:Wk (aiB L k) v n u d):WI L k u v d:=by
 obtain⟨vs,_,hw⟩:=h.wl;clear h;rename_i hlen;clear hlen
 induction hw with
 |nil h =>
  obtain rfl:=h;exact .nil
 | @step vs w v m d _ h2 ih =>
  obtain⟨g1,g2,g3⟩:=Zr.1 h2;have:=(hS.inr _ g1).1;exact ih.step this.1 g2 g1
def anp (hS:ł L N) (hc:∀v d:Int,0≤v→v<N→WI L k v v d→0≤d):Ğ (aiB L k) N=true:=by
 cases ho:Ğ (aiB L k) N with
 |true=>rfl
 |false =>
  obtain⟨n,v,d,_,_,h3,h4,h5⟩:=VJ (ag9 hS) ho;have:=hc v d h3.1 h3.2 (.of_low hS h4);omega
def WI.low (hS:ł L N) (hc:∀v d:Int,0≤v→v<N→WI L k v v d→0≤d) {v d:Int} (h:WI L k u v d) : -2314850208468434944≤d:=by
 have hn:=hS.n60;have ho:=anp hS hc;have hs:=ag9 (k:=k) hS;have hbd:=W7 hs.links (by omega) ho;obtain⟨hp,_⟩:=am0 hs ho
 let p:Int→Int:=fun v=>if 0≤v∧v<N then gv (į (aiB L k) N) v else 0
 have hlen:(į (aiB L k) N).length=N:=by unfold į; rw[ÿ,ê]
 have hpb:∀v,-2305843009213693952≤p v∧p v≤0:=fun v=>by
  show -2305843009213693952≤(if 0≤v∧v<N then gv (į (aiB L k) N) v else 0)∧(if 0≤v∧v<N then gv (į (aiB L k) N) v else 0)≤0
  split
  ·rename_i hv;exact hbd _ (cZ (Wo (by omega)))
  ·omega
 have hpp:∀a b m,(a,b,m)∈aiB L k→p b≤p a+m:=fun a b m hl=>by
  have hr:=hs.inr _ hl;dsimp only at hr;have:=hp a b m hl;rw[OZ hr.1.1 hr.1.2,OZ hr.2.1 hr.2.2] at this;show(if 0≤b∧b<N then gv (į (aiB L k) N) b else 0)≤(if 0≤a∧a<N then gv (į (aiB L k) N) a else 0)+m;rw[if_pos hr.1,if_pos hr.2];omega
 have key:∀{v d:Int},WI L k u v d→(v<k→p v-4503599627370496≤d)∧-2314850208468434944≤d:=fun {v d} h=>by
  induction h with
  |nil=>have:=hpb u; exact⟨fun _=>by omega,by omega⟩
  | @one v m h =>
   have:=hpb v;have:=(hS.most _ h).1;dsimp only at this;exact⟨fun _=>by omega,by omega⟩
  | @step w v d m _ h0 h1 h2 ih =>
   have hm:=(hS.most _ h2).1;dsimp only at hm;have hi:=ih.1 h1;have hw:=hpb w;refine⟨fun hv=>?_,by omega⟩;have:=hpp w v m (Zr.2 ⟨h2,h1,hv⟩);omega
 exact(key h).2
def lkF (f:Int→Int→Int) (l:Lk):Int→Int→Int:=fun a b=>if a=l.1∧b=l.2.1 then min (f l.1 l.2.1) l.2.2 else f a b
def afH (a b:Int):Int:=if a=b then 0 else ĸ
def upF (f:Int→Int→Int) (k:Int):Int→Int→Int:=fun a b=>if f a k=ĸ then f a b else if f k b=ĸ then f a b else min (f a b) (f a k+f k b)
def fw (L:List Lk):Nat→Int→Int→Int
 |0=>L.foldl lkF afH
 |k+1=>upF (fw L k) k
def Wu (a b:Int):∀(M:List Lk) (f:Int→Int→Int),(M.foldl lkF f) a b≤f a b∧(∀m,(a,b,m)∈M→(M.foldl lkF f) a b≤m)∧((M.foldl lkF f) a b=f a b∨∃m,(a,b,m)∈M∧(M.foldl lkF f) a b=m)
 |[],f=>⟨dw _,fun _ h=>by simp at h,.inl rfl⟩
 |l::M,f=>by
  rw[fL];obtain⟨i1,i2,i3⟩:=Wu a b M (lkF f l)
  have key:lkF f l a b≤f a b∧((a=l.1∧b=l.2.1)→lkF f l a b≤l.2.2)∧(lkF f l a b=f a b∨((a=l.1∧b=l.2.1)∧lkF f l a b=l.2.2)):=by
   unfold lkF
   by_cases h:a=l.1∧b=l.2.1
   ·rw[if_pos h,h.1,h.2];refine⟨by omega,fun _=>by omega,?_⟩
    by_cases hc:f l.1 l.2.1≤l.2.2
    ·exact .inl (by omega)
    ·exact .inr ⟨⟨rfl,rfl⟩,by omega⟩
   ·rw[if_neg h];exact⟨dw _,fun h'=>absurd h' h,.inl rfl⟩
  obtain⟨k1,k2,k3⟩:=key;refine⟨by omega,fun m hm=>?_,?_⟩
  ·rcases dc.1 hm with h|h
   ·subst h;have:=k2 ⟨rfl,rfl⟩;dsimp only at this;omega
   ·exact i2 m h
  ·rcases i3 with h|⟨m,h,e⟩
   ·rcases k3 with h'|⟨⟨h1,h2⟩,h'⟩
    ·exact .inl (h.trans h')
    ·exact .inr ⟨l.2.2,by rw[h1,h2]; simp,h.trans h'⟩
   ·exact .inr ⟨m,by simp[h],e⟩
structure Tab (L:List Lk) (N:Nat) (k:Nat) (f:Int→Int→Int):Prop where
 att:∀a b:Int,0≤a→a<N→0≤b→b<N→f a b≠ĸ→WI L k a b (f a b)
 le:∀a b s:Int,0≤a→a<N→0≤b→b<N→WI L k a b s→f a b≤s∧f a b≠ĸ
 diag:∀a:Int,0≤a→a<N→f a a=0
def Tab.closed {f:Int→Int→Int} {k:Nat} (h:Tab L N k f):∀v d:Int,0≤v→v<N→WI L k v v d→0≤d:=fun v d h0 h1 hw=>by
 have:=(h.le v v d h0 h1 h0 h1 hw).1;rw[h.diag v h0 h1] at this;exact this
def Tab.bd (hS:ł L N) {f:Int→Int→Int} {k:Nat} (h:Tab L N k f) {a b:Int} (ha:0≤a∧a<N) (hb:0≤b∧b<N) (hf:f a b≠ĸ) : -2314850208468434944≤f a b∧f a b≤270215977642229760:=by
 have hw:=h.att a b ha.1 ha.2 hb.1 hb.2 hf;obtain⟨d,hd,hle⟩:=hw.high hS ha;have:=(h.le a b d ha.1 ha.2 hb.1 hb.2 hd).1;exact⟨hw.low hS h.closed,by omega⟩
def amU (hS:ł L N):Tab L N 0 (fw L 0):=by
 have key:∀a b,(fw L 0 a b≤afH a b)∧(∀m,(a,b,m)∈L→fw L 0 a b≤m)∧(fw L 0 a b=afH a b∨∃m,(a,b,m)∈L∧fw L 0 a b=m):=fun a b=>Wu a b L afH;refine⟨fun a b ha ha' hb hb' hf=>?_,fun a b s ha ha' hb hb' hw=>?_,fun a ha ha'=>?_⟩
 ·rcases(key a b).2.2 with h|⟨m,h,e⟩
  ·rw[h] at hf ⊢;unfold afH at hf ⊢
   by_cases hab:a=b
   ·subst hab; rw[if_pos rfl]; exact .nil
   ·rw[if_neg hab] at hf; exact absurd rfl hf
  ·rw[e]; exact .one h
 ·have hs:fw L 0 a b≤s∧s≤4503599627370496:=by
   cases hw with
   |nil =>
    have:=(key a a).1;unfold afH at this;rw[if_pos rfl] at this;omega
   |one h=>exact⟨(key a b).2.1 _ h,(hS.most _ h).2⟩
   |step _ h0 h1 _=>omega
  refine⟨hs.1,fun hF=>?_⟩;rw[hF] at hs;unfold ĸ at hs;omega
 ·rcases(key a a).2.2 with h|⟨m,h,e⟩
  ·rw[h]; unfold afH; rw[if_pos rfl]
  ·exact absurd rfl (hS.noloop _ h)
def agy (hS:ł L N) {k:Nat} (hk:k<N) {f:Int→Int→Int} (h:Tab L N k f) :
 (∀a b:Int,0≤a→a<N→0≤b→b<N→upF f k a b≠ĸ→WI L ((k+1:Nat):Int) a b (upF f k a b)) ∧
 (∀a b s:Int,0≤a→a<N→0≤b→b<N→WI L ((k+1:Nat):Int) a b s→upF f k a b≤s∧upF f k a b≠ĸ) ∧
 (∀a:Int,0≤a→a<N→upF f k a a≤0):=by
 have hk0:(0:Int)≤k∧(k:Int)<N:=by omega
 -- the element that a pass gives
 have cases3:∀a b:Int,upF f k a b=f a b∨(f a k≠ĸ∧f k b≠ĸ∧upF f k a b=f a k+f k b):=fun a b=>by
  unfold upF
  by_cases h1:f a k=ĸ
  ·rw[if_pos h1]; exact .inl rfl
  rw[if_neg h1]
  by_cases h2:f k b=ĸ
  ·rw[if_pos h2]; exact .inl rfl
  rw[if_neg h2]
  by_cases h3:f a b≤f a k+f k b
  ·exact .inl (by omega)
  ·exact .inr ⟨h1,h2,by omega⟩
 have lim:∀a b:Int,0≤a→a<N→0≤b→b<N→f a b≤ĸ:=fun a b h0 h1 h2 h3=>by
  by_cases hf:f a b=ĸ
  ·omega
  ·have:=h.bd hS ⟨h0,h1⟩ ⟨h2,h3⟩ hf; unfold ĸ; omega
 have upper:∀a b:Int,upF f k a b≤f a b∧(f a k≠ĸ→f k b≠ĸ→upF f k a b≤f a k+f k b):=fun a b=>by
  unfold upF
  by_cases h1:f a k=ĸ
  ·rw[if_pos h1]; exact⟨dw _,fun h'=>absurd h1 h'⟩
  rw[if_neg h1]
  by_cases h2:f k b=ĸ
  ·rw[if_pos h2]; exact⟨dw _,fun _ h'=>absurd h2 h'⟩
  rw[if_neg h2];exact⟨by omega,fun _ _=>by omega⟩
 have B:=fun(a b:Int) (h0:0≤a) (h1:a<N) (h2:0≤b) (h3:b<N) (hf:f a b≠ĸ)=>h.bd hS ⟨h0,h1⟩ ⟨h2,h3⟩ hf
 -- if there is a walk, the element is told
 have ne:∀a b:Int,0≤a→a<N→0≤b→b<N→(f a b≠ĸ∨(f a k≠ĸ∧f k b≠ĸ))→upF f k a b≠ĸ:=fun a b h0 h1 h2 h3 hc hF=>by
  have hu:=upper a b;rcases hc with hc|⟨hc1,hc2⟩
  ·have:=B a b h0 h1 h2 h3 hc;rw[hF] at hu;unfold ĸ at hu;omega
  ·have b1:=B a k h0 h1 hk0.1 hk0.2 hc1;have b2:=B k b hk0.1 hk0.2 h2 h3 hc2;have:=hu.2 hc1 hc2;rw[hF] at this;unfold ĸ at this;omega
 have colk:∀a:Int,0≤a→a<N→upF f k a k=f a k:=fun a h0 h1=>by
  have hd:=h.diag k hk0.1 hk0.2;unfold upF;rw[hd]
  split
  ·rfl
  ·rw[if_neg (by decide)]; omega
 refine⟨fun a b h0 h1 h2 h3 hf=>?_,fun a b s h0 h1 h2 h3 hw=>?_,fun a h0 h1=>?_⟩
 ·rcases cases3 a b with e|⟨e1,e2,e⟩
  ·rw[e] at hf ⊢;exact(h.att a b h0 h1 h2 h3 hf).mono (by omega)
  ·rw[e];exact((h.att a k h0 h1 hk0.1 hk0.2 e1).mono (by omega)).app ((h.att k b hk0.1 hk0.2 h2 h3 e2).mono (by omega)) hk0.1 (by omega)
 ·-- by the walk
  have main:∀{v s:Int},WI L ((k+1:Nat):Int) a v s→(0≤v∧v<N)→upF f k a v≤s∧(f a v≠ĸ∨(f a k≠ĸ∧f k v≠ĸ)):=fun {v s} hw=>by
   induction hw with
   |nil =>
    intro hv;have:=h.le a a 0 hv.1 hv.2 hv.1 hv.2 .nil;exact⟨by have:=(upper a a).1; omega,.inl this.2⟩
   | @one v m hl =>
    intro hv;have:=h.le a v m h0 h1 hv.1 hv.2 (.one hl);exact⟨by have:=(upper a v).1; omega,.inl this.2⟩
   | @step w v d m _ g0 g1 g2 ih =>
    intro hv;have hwr:=(hS.inr _ g2).1;dsimp only at hwr;obtain⟨i1,i2⟩:=ih hwr;have hone:=h.le w v m hwr.1 hwr.2 hv.1 hv.2 (.one g2)
    by_cases hwk:w=k
    ·subst hwk;rw[colk a h0 h1] at i1
     have hak:f a k≠ĸ:=by
      rcases i2 with i2|i2
      ·exact i2
      ·exact i2.1
     have:=(upper a v).2 hak hone.2;exact⟨by omega,.inr ⟨hak,hone.2⟩⟩
    ·have hlt:w<k:=by push_cast at g1; omega
     -- one link Ù of a walk by nodes below k
     have ext:∀x:Int,0≤x→x<N→f x w≠ĸ→f x v≤f x w+m∧f x v≠ĸ:=fun x hx0 hx1 hf =>
      h.le x v _ hx0 hx1 hv.1 hv.2 ((h.att x w hx0 hx1 hwr.1 hwr.2 hf).step hwr.1 hlt g2)
     rcases cases3 a w with e|⟨e1,e2,e⟩
     ·have hne:f a w≠ĸ:=by
       rcases i2 with i2|⟨i2,i3⟩
       ·exact i2
       ·intro hF;rw[hF] at e;exact ne a w h0 h1 hwr.1 hwr.2 (.inr ⟨i2,i3⟩) e
      have:=ext a h0 h1 hne;exact⟨by have:=(upper a v).1; omega,.inl this.2⟩
     ·have:=ext k hk0.1 hk0.2 e2;have:=(upper a v).2 e1 this.2;exact⟨by omega,.inr ⟨e1,(ext k hk0.1 hk0.2 e2).2⟩⟩
  obtain⟨m1,m2⟩:=main hw ⟨h2,h3⟩;exact⟨m1,ne a b h0 h1 h2 h3 m2⟩
 ·have:=(upper a a).1;have:=h.diag a h0 h1;omega
def wi_pot {p:Int→Int} (hp:Pot L p) {v d:Int} (h:WI L k u v d):p v≤p u+d:=by
 induction h with
 |nil=>omega
 |one h=>exact hp _ _ _ h
 |step _ _ _ h2 ih=>have:=hp _ _ _ h2; omega
def fw_all (hS:ł L N):(∃k:Nat,k<N∧Tab L N k (fw L k)∧(∃a:Int,0≤a∧a<N∧fw L (k+1) a a<0)∧∀j,j≤k→Tab L N j (fw L j))∨∀k:Nat,k≤N→Tab L N k (fw L k):=by
 have:∀k:Nat,k≤N→(∃j:Nat,j<k∧Tab L N j (fw L j)∧(∃a:Int,0≤a∧a<N∧fw L (j+1) a a<0)∧∀i,i≤j→Tab L N i (fw L i))∨∀i,i≤k→Tab L N i (fw L i):=by
  intro k
  induction k with
  |zero=>exact fun _=>.inr fun i hi=>by have h0:i=0:=(by omega); subst h0; exact amU hS
  |succ k ih =>
   intro hk;rcases ih (by omega) with⟨j,h1,h2⟩|h
   ·exact .inl ⟨j,by omega,h2⟩
   ·have hT:=h k (cQ _);obtain⟨s1,s2,s3⟩:=agy hS (by omega) hT
    by_cases hb:∃a:Int,0≤a∧a<N∧fw L (k+1) a a<0
    ·exact .inl ⟨k,by omega,hT,hb,h⟩
    ·refine .inr fun i hi=>?_;rcases Nat.lt_or_eq_of_le hi with hi|rfl
     ·exact h i (by omega)
     ·refine⟨s1,s2,fun a h0 h1=>?_⟩;have:=s3 a h0 h1;rcases gD (fw L (k+1) a a) 0 with q|q
      ·exact absurd ⟨a,h0,h1,q⟩ hb
      ·have e:fw L (k+1) a a=upF (fw L k) k a a:=rfl;omega
 rcases this N (cQ _) with⟨j,h1,h2⟩|h
 ·exact .inl ⟨j,h1,h2⟩
 ·exact .inr h
def anE (hS:ł L N) {j:Nat} (hj:j<N) (hT:Tab L N j (fw L j)) (hb:∃a:Int,0≤a∧a<N∧fw L (j+1) a a<0):Ğ L N=false:=by
 have hn:=hS.n60;obtain⟨a,h0,h1,h2⟩:=hb;rw[Bool.eq_false_iff];intro ho;obtain⟨p,hp⟩:=(œ hS.links (by omega)).1 ho;obtain⟨s1,_,_⟩:=agy hS hj hT;have e:fw L (j+1) a a=upF (fw L j) j a a:=rfl;rw[e] at h2;have:=wi_pot hp (s1 a a h0 h1 h0 h1 (by unfold ĸ; omega));omega
def ak7 (hS:ł L N) (hT:Tab L N N (fw L N)):Ğ L N=true:=by
 cases ho:Ğ L N with
 |true=>rfl
 |false =>
  obtain⟨n,v,d,_,_,h3,h4,h5⟩:=VJ hS ho;have:=hT.closed v d h3.1 h3.2 (.of_wk hS.inr (dw _) h4);omega
def fw_dst (hS:ł L N) (ht:I7 L N) (hT:Tab L N N (fw L N)) {a b:Int} (ha:0≤a∧a<N) (hb:0≤b∧b<N):fw L N a b=dst L N a b:=by
 have ho:=ak7 hS hT;obtain⟨vs,hw⟩:=anN hS ht ho ha hb;obtain⟨h1,h2⟩:=hT.le a b _ ha.1 ha.2 hb.1 hb.2 (.of_wl hS.inr (dw _) hw);obtain⟨vs',hw'⟩:=(hT.att a b ha.1 ha.2 hb.1 hb.2 h2).wl;have:=apG hS ho ha hw';omega
end
section
variable {ρ:Type} {L:List Lk} {N:Nat}
def amS (hN:N≤60) {u:Int} (hu:0≤u∧u<N) (K:List Int→Option ρ) :
 Î (fun(v7:Int×List Int) kk10=>lS (N:Int) u v7.1 v7.2 (fun u8 u9=>kk10 (u8,u9)) K) ((0:Int),List.replicate N (0:Int))=K (Tm N (afH u)):=by
 refine ô (List.replicate N ()) (fun i=>Tm N fun b=>if b<i then afH u b else 0) _ ?_ (fun i a hi ha kn=>?_) (fun kn=>?_)
 ·unfold Tm;refine List.ext_getElem? fun j=>?_;rw[List.getElem?_map,List.getElem?_replicate]
  by_cases hj:j<N
  ·rw[ft hj,if_pos hj];simp only[dQ];rw[if_neg (by omega)]
  ·rw[fW (by simpa using hj),if_neg hj];rfl
 ·try dsimp only
  unfold lS;rw[List.length_replicate] at hi;have e0:ĸ=(1152921504606846976:Int):=rfl;rw[Ø (decide_eq_true (by omega)),ph,Ĵ (by omega) (by omega),nj _ (by omega) (by omega),aer _ (by omega)]
  by_cases h:u=(i:Int)
  ·rw[Ø (beq_iff_eq.2 h),ph,Ĵ (by omega) (by omega),nj _ (by omega) (by omega),Õ (by omega) (by omega),aer _ (by omega)];congr 1;refine Xb fun v h0 h1=>?_
   by_cases hv:v=(i:Int)
   ·rw[if_pos hv,if_pos (by push_cast; omega)]; unfold afH; rw[if_pos (by omega)]
   ·rw[if_neg hv,if_neg hv]
    by_cases h2:v<(i:Int)
    ·rw[if_pos h2,if_pos (by push_cast; omega)]
    ·rw[if_neg h2,if_neg (by push_cast; omega)]
  ·rw[Ô (beq_eq_false_iff_ne.2 h),Õ (by omega) (by omega)];congr 1;refine Xb fun v h0 h1=>?_
   by_cases hv:v=(i:Int)
   ·rw[if_pos hv,if_pos (by push_cast; omega)]; unfold afH; rw[if_neg (by omega),e0]
   ·rw[if_neg hv]
    by_cases h2:v<(i:Int)
    ·rw[if_pos h2,if_pos (by push_cast; omega)]
    ·rw[if_neg h2,if_neg (by push_cast; omega)]
 ·try dsimp only
  unfold lS;rw[List.length_replicate,Ô (decide_eq_false (by omega))];congr 1;exact Xb fun v h0 h1=>if_pos h1
def amT (hN:N≤60) (K:List (List Int)→Option ρ) :
 Î (fun(v74:Int×List (List Int)) kk77=>lT (N:Int) v74.1 v74.2 (fun u75 u76=>kk77 (u75,u76)) K) ((0:Int),[])=K (BK N afH):=by
 refine ô (List.replicate N ()) (fun i=>(List.range i).map fun(u:Nat)=>Tm N (afH u)) _ rfl (fun i a hi ha kn=>?_) (fun kn=>?_)
 ·try dsimp only
  unfold lT;rw[List.length_replicate] at hi;rw[Ø (decide_eq_true (by omega)),ĩ (by simp[î]; omega),Int.toNat_natCast];refine(amS hN ⟨by omega,by omega⟩ _).trans ?_;rw[ĩ (Ú (by simp only[List.length_map,List.length_range,List.length_singleton]; omega)),Õ (by omega) (by omega)];congr 2;rw[List.range_succ,List.map_append];rfl
 ·try dsimp only
  unfold lT;rw[List.length_replicate,Ô (decide_eq_false (by omega))];rfl
def amR (hS:ł L N) (K:List (List Int)→Option ρ) :
 Î (fun(v70:Int×List (List Int)) kk73=>lR L v70.1 v70.2 (fun u71 u72=>kk73 (u71,u72)) K) ((0:Int),BK N afH)=K (BK N (fw L 0)):=by
 have hl3:=hS.len;refine ô L (fun i=>BK N ((L.take i).foldl lkF afH)) _ rfl (fun i l hi hl kn=>?_) (fun kn=>?_)
 ·try dsimp only
  unfold lR;have hr:=hS.inr l (List.mem_of_getElem? hl);obtain⟨⟨a0,a1⟩,b0,b1⟩:=hr;rw[Ö hi,Ì hl];simp only[vH,Ĵ a0 a1,rE _ a0 a1,ph,Ĵ b0 b1,nj _ b0 b1];rw[Ï hi (by omega),ajO _ a0 b0,take_succ hl,List.foldl_append];congr 2;refine sS fun u v _ _ _ _=>?_;simp only[List.foldl_cons,List.foldl_nil,lkF,tz]
 ·try dsimp only
  unfold lR;rw[ã,List.take_length];rfl
def amQ (hS:ł L N) {k:Nat} (hk:k<N) {f:Int→Int→Int} (hT:Tab L N k f) {u:Int} (hu:0≤u∧u<N) (hne:f u k≠ĸ) {g:Int→Int→Int} (hgk:∀b:Int,0≤b→b<N→g k b=f k b) (hgu:∀b:Int,0≤b→b<N→g u b=f u b) (K:List (List Int)→Option ρ) :
 Î (fun(v45:Int×List (List Int)) kk48=>lP (k:Int) u (N:Int) v45.1 v45.2 (fun u46 u47=>kk48 (u46,u47)) K) ((0:Int),BK N g)=K (BK N fun a b=>if a=u then upF f k a b else g a b):=by
 have hn:=hS.n60
 have hk0:(0:Int)≤k∧(k:Int)<N:=by omega
 have hdk:=hT.diag k hk0.1 hk0.2;have e0:ĸ=(1152921504606846976:Int):=rfl
 have rowk:∀b:Int,upF f k k b=f k b:=fun b=>by
  unfold upF;rw[hdk];rw[if_neg (by decide)]
  split
  ·rfl
  ·omega
 have colk:upF f k u k=f u k:=by
  unfold upF;rw[if_neg hne,hdk,if_neg (by decide)];omega
 refine ô (List.replicate N ()) (fun i=>BK N fun a b=>if a=u∧b<i then upF f k a b else g a b) _ ?_ (fun i a hi ha kn=>?_) (fun kn=>?_)
 ·exact sS fun a b _ _ hb _=>if_neg (by omega)
 ·try dsimp only
  unfold lP;rw[List.length_replicate] at hi
  have hi0:(0:Int)≤i∧(i:Int)<N:=by omega
  -- what lies in row k, and in row u at k
  have r1:(if (k:Int)=u∧(i:Int)<i then upF f k k i else g k i)=f k i:=by rw[if_neg (by omega)]; exact hgk i hi0.1 hi0.2
  have r2:(if u=u∧(i:Int)<i then upF f k u i else g u i)=f u i:=by rw[if_neg (by omega)]; exact hgu i hi0.1 hi0.2
  have r3:(if u=u∧(k:Int)<i then upF f k u k else g u k)=f u k:=by
   split
   ·exact colk
   ·exact hgu k hk0.1 hk0.2
  have step:∀x:Int,(fun(a b:Int)=>if a=u∧b=(i:Int) then x else if a=u∧b<(i:Int) then upF f k a b else g a b)=fun a b=>if a=u∧b<((i+1:Nat):Int) then(if b=(i:Int) then x else upF f k a b) else g a b:=fun x=>by
   funext a b
   by_cases h1:a=u
   ·by_cases h2:b=(i:Int)
    ·rw[if_pos ⟨h1,h2⟩,if_pos ⟨h1,by push_cast; omega⟩,if_pos h2]
    ·by_cases h3:b<(i:Int)
     ·rw[if_neg (fun h=>h2 h.2),if_pos ⟨h1,h3⟩,if_pos ⟨h1,by push_cast; omega⟩,if_neg h2]
     ·rw[if_neg (fun h=>h2 h.2),if_neg (fun h=>h3 h.2),if_neg (fun h=>by have:=h.2; push_cast at this; omega)]
   ·rw[if_neg (fun h=>h1 h.1),if_neg (fun h=>h1 h.1),if_neg (fun h=>h1 h.1)]
  rw[Ø (decide_eq_true hi0.2)];simp only[-eq_self,vH,Ĵ hk0.1 hk0.2,rE _ hk0.1 hk0.2,ph,Ĵ hi0.1 hi0.2,nj _ hi0.1 hi0.2,r1]
  by_cases h2:f k i=ĸ
  ·rw[Ô (by rw[h2]; rfl),Õ (by omega) (by omega)];congr 2;refine sS fun a b ha _ hb _=>?_
   by_cases h3:a=u∧b<(i:Int)
   ·rw[if_pos h3,if_pos ⟨h3.1,by push_cast; omega⟩]
   ·rw[if_neg h3]
    by_cases h4:a=u∧b=(i:Int)
    ·rw[if_pos ⟨h4.1,by push_cast; omega⟩,h4.1,h4.2];unfold upF;rw[if_neg hne,if_pos h2];exact hgu i hi0.1 hi0.2
    ·rw[if_neg (fun h=>by have:=h.2; push_cast at this; omega)]
  ·have b1:=hT.bd hS hu hk0 hne;have b2:=hT.bd hS hk0 hi0 h2;rw[Ø (bne_iff_ne.2 h2)];simp only[-eq_self,vH,Ĵ hu.1 hu.2,rE _ hu.1 hu.2,ph,Ĵ hi0.1 hi0.2,nj _ hi0.1 hi0.2,Ĵ hk0.1 hk0.2,nj _ hk0.1 hk0.2,rE _ hk0.1 hk0.2,r1,r2,r3];rw[Õ (by omega) (by omega)]
   try simp only[-eq_self,vH,Ĵ hu.1 hu.2,rE _ hu.1 hu.2,ph,Ĵ hi0.1 hi0.2,nj _ hi0.1 hi0.2]
   rw[Õ (by omega) (by omega),ajO _ hu.1 hi0.1,step];congr 2;refine sS fun a b ha _ hb _=>?_
   by_cases h3:a=u∧b<((i+1:Nat):Int)
   ·rw[if_pos h3,if_pos h3]
    by_cases h4:b=(i:Int)
    ·rw[if_pos h4,h3.1,h4,tz];unfold upF;rw[if_neg hne,if_neg h2]
    ·rw[if_neg h4]
   ·rw[if_neg h3,if_neg h3]
 ·try dsimp only
  unfold lP;rw[List.length_replicate,Ô (decide_eq_false (by omega))];congr 1;refine sS fun a b _ _ _ hb=>?_
  by_cases h:a=u
  ·rw[if_pos ⟨h,hb⟩,if_pos h]
  ·rw[if_neg (fun q=>h q.1),if_neg h]
def agx (hS:ł L N) {k:Nat} (hk:k<N) {f:Int→Int→Int} (hT:Tab L N k f) (K:List (List Int)→Option ρ) :
 Î (fun(v60:Int×List (List Int)) kk63=>lQ (k:Int) (N:Int) v60.1 v60.2 (fun u61 u62=>kk63 (u61,u62)) K) ((0:Int),BK N f)=K (BK N (upF f k)):=by
 have hn:=hS.n60
 have hk0:(0:Int)≤k∧(k:Int)<N:=by omega
 have hdk:=hT.diag k hk0.1 hk0.2
 have rowk:∀b:Int,upF f k k b=f k b:=fun b=>by
  unfold upF;rw[hdk];rw[if_neg (by decide)]
  split
  ·rfl
  ·omega
 refine ô (List.replicate N ()) (fun i=>BK N fun a b=>if a<i then upF f k a b else f a b) _ ?_ (fun i a hi ha kn=>?_) (fun kn=>?_)
 ·exact sS fun a b ha _ _ _=>if_neg (by omega)
 ·try dsimp only
  unfold lQ;rw[List.length_replicate] at hi
  have hi0:(0:Int)≤i∧(i:Int)<N:=by omega
  have r1:(if (i:Int)<i then upF f k i k else f i k)=f i k:=if_neg (by omega);rw[Ø (decide_eq_true hi0.2)];simp only[vH,Ĵ hi0.1 hi0.2,rE _ hi0.1 hi0.2,ph,Ĵ hk0.1 hk0.2,nj _ hk0.1 hk0.2,r1]
  by_cases h1:f i k=ĸ
  ·rw[Ø (beq_iff_eq.2 h1),Õ (by omega) (by omega)];congr 2;refine sS fun a b ha _ hb _=>?_
   by_cases h2:a<(i:Int)
   ·rw[if_pos h2,if_pos (by push_cast; omega)]
   ·rw[if_neg h2]
    by_cases h3:a=(i:Int)
    ·rw[if_pos (by push_cast; omega),h3];unfold upF;rw[if_pos h1]
    ·rw[if_neg (by push_cast; omega)]
  ·rw[Ô (beq_eq_false_iff_ne.2 h1)];refine(amQ hS hk hT hi0 h1 (fun b _ _=>?_) (fun b _ _=>if_neg (by omega)) _).trans ?_
   ·split
    ·exact rowk b
    ·rfl
   ·rw[Õ (by omega) (by omega)];congr 2;refine sS fun a b ha _ hb _=>?_
    by_cases h3:a=(i:Int)
    ·rw[if_pos h3,if_pos (by push_cast; omega)]
    ·rw[if_neg h3]
     by_cases h2:a<(i:Int)
     ·rw[if_pos h2,if_pos (by push_cast; omega)]
     ·rw[if_neg h2,if_neg (by push_cast; omega)]
 ·try dsimp only
  unfold lQ;rw[List.length_replicate,Ô (decide_eq_false (by omega))];congr 1;exact sS fun a b _ ha _ _=>if_pos ha
def amP (hN:N≤60) (f:Int→Int→Int) (X Y:Option ρ) :
 Î (fun(v57:Int) kk59=>iS (N:Int) (BK N f) v57 (fun u58=>kk59 u58) (fun _=>X) (fun _=>Y)) (0:Int)=if ((List.range N).any fun(a:Nat)=>decide (f a a<0)) then X else Y:=by
 refine Ń (List.range N) (fun a=>decide (f a a<0)) (fun _=>X) X Y (fun _=>rfl) (fun i a hi ha kn=>?_) (fun kn=>?_)
 ·try dsimp only
  unfold iS;rw[List.length_range] at hi
  have hia:a=i:=by rw[ft hi] at ha; exact(Option.some.inj ha).symm
  subst hia
  have hi0:(0:Int)≤a∧(a:Int)<N:=by omega
  rw[Ø (decide_eq_true hi0.2)];simp only[vH,Ĵ hi0.1 hi0.2,rE _ hi0.1 hi0.2,ph,nj _ hi0.1 hi0.2];rw[Õ (by omega) (by omega),Ě]
 ·try dsimp only
  unfold iS;rw[List.length_range,Ô (decide_eq_false (by omega))]
def ahS (hS:ł L N) (ht:I7 L N):pZ ((N:Int),L)=some (if Ğ L N then(BK N (dst L N),true) else([],false)):=by
 have hn:=hS.n60;unfold pZ JV;dsimp only;refine(amT hn _).trans ?_;refine(amR hS _).trans ?_
 have anyOf:∀k:Nat,((List.range N).any fun(a:Nat)=>decide (fw L k a a<0))=true↔∃a:Int,0≤a∧a<N∧fw L k a a<0:=fun k=>by
  rw[fc];constructor
  ·rintro⟨a,h1,h2⟩;have:=gK.1 h1;exact⟨a,by omega,by omega,of_decide_eq_true h2⟩
  ·rintro⟨a,h0,h1,h2⟩;exact⟨a.toNat,gK.2 (by omega),decide_eq_true (by rw[show((a.toNat:Nat):Int)=a by omega]; exact h2)⟩
 rcases fw_all hS with⟨j,hj,hT,hb,hall⟩|hall
 ·rw[anE hS hj hT hb,if_neg (by simp)];refine Ĕ (fun v=>∃k:Nat,k≤j∧v=((k:Int),BK N (fw L k))∧Tab L N k (fw L k)) (fun v=>N-v.1.toNat) ?_ ⟨0,by omega,rfl,hall 0 (by omega)⟩;rintro v ⟨k,hkj,rfl,hTk⟩;dsimp only
  have hL6:∀kn:Int×List (List Int)→Option (List (List Int)×Bool),jQ (N:Int) (k:Int) (BK N (fw L k)) (fun u67 u68=>kn (u67,u68)) (fun z64=>some (([]:List (List Int)),z64.1)) (fun z65=>some (z65,true))=if ((List.range N).any fun(a:Nat)=>decide (fw L (k+1) a a<0)) then some ([],false) else kn ((k:Int)+1,BK N (fw L (k+1))):=fun kn=>by
   unfold jQ;rw[Ø (decide_eq_true (by omega))];refine(agx hS (by omega) hTk _).trans ?_;have:=amP hn (upF (fw L k) k) (some (([]:List (List Int)),false)) (ck ((k:Int)+1) fun n56=>kn (n56,BK N (upF (fw L k) k)));rw[Õ (by omega) (by omega)] at this;refine Eq.trans ?_ this;rw[Õ (by omega) (by omega)];congr 1
  rcases Nat.lt_or_eq_of_le hkj with hlt|rfl
  ·refine .inr ⟨(((k+1:Nat):Int),BK N (fw L (k+1))),⟨k+1,hlt,rfl,hall (k+1) hlt⟩,by dsimp only; omega,fun kn=>?_⟩;have hd:=hall (k+1) hlt;rw[hL6 kn,if_neg]
   ·push_cast; rfl
   ·intro h;obtain⟨a,h0,h1,h2⟩:=(anyOf (k+1)).1 h;rw[hd.diag a h0 h1] at h2;omega
  ·refine .inl fun kn=>?_;rw[hL6 kn,if_pos ((anyOf (k+1)).2 hb)]
 ·have hT:=hall N (Nat.le_refl _);rw[ak7 hS hT,if_pos rfl];refine Ĕ (fun v=>∃k:Nat,k≤N∧v=((k:Int),BK N (fw L k))) (fun v=>N-v.1.toNat) ?_ ⟨0,by omega,rfl⟩;rintro v ⟨k,hkj,rfl⟩;dsimp only;rcases Nat.lt_or_eq_of_le hkj with hlt|rfl
  ·have hd:=hall (k+1) hlt;refine .inr ⟨(((k+1:Nat):Int),BK N (fw L (k+1))),⟨k+1,hlt,rfl⟩,by dsimp only; omega,fun kn=>?_⟩;unfold jQ;rw[Ø (decide_eq_true (by omega))];refine(agx hS hlt (hall k hkj) _).trans ?_;refine Ĕ (fun v=>∃a:Nat,a≤N∧v=(a:Int)) (fun v=>N-v.toNat) ?_ ⟨0,by omega,rfl⟩;rintro v ⟨a,ha,rfl⟩;rcases Nat.lt_or_eq_of_le ha with hl|rfl
   ·have ha0:(0:Int)≤a∧(a:Int)<N:=by omega
    refine .inr ⟨((a+1:Nat):Int),⟨a+1,hl,rfl⟩,by omega,fun kn'=>?_⟩;unfold iS;have hda:upF (fw L k) k a a=0:=hd.diag a ha0.1 ha0.2;rw[Ø (decide_eq_true ha0.2)];simp only[vH,Ĵ ha0.1 ha0.2,rE _ ha0.1 ha0.2,ph,nj _ ha0.1 ha0.2,hda];rw[Ô (by rfl),Õ (by omega) (by omega)];push_cast;rfl
   ·refine .inl fun kn'=>?_;unfold iS;rw[Ô (decide_eq_false (by omega)),Õ (by omega) (by omega)];push_cast;rfl
  ·refine .inl fun kn=>?_;unfold jQ;rw[Ô (decide_eq_false (by omega))];refine congrArg _ (congrArg (·,true) ?_);exact sS fun a b h0 h1 h2 h3=>fw_dst hS ht hT ⟨h0,h1⟩ ⟨h2,h3⟩
end
def AM (n lo hi:Int):l6 n lo hi=some (inP n lo hi):=by
 unfold l6 aeR inP ige ile
 cases h:decide (lo≤n)<;>simp_all
def aac (n:Int):wW n=some (Jd n):=by
 unfold wW Yc;rw[AM]; rfl
def xi (s:Int×Int) (lo hi:Int):jF s lo hi=some (j7 s lo hi):=by
 unfold jF yG j7 ile
 cases decide (lo≤s.1)<;>cases decide (s.1≤s.2)<;>rfl
def ap0 {l:List Int} (hn:l.length≤1000000) (x:Int):OD l x=some (l.contains x):=by
 unfold OD X9;refine Eq.trans (Ń l (fun a=>a==x) (fun _=>some true) (some true) (some false) (fun _=>rfl) (fun i a hi ha kn=>?_) (fun kn=>?_)) ?_
 ·try dsimp only
  unfold vS;rw[Ö hi,Ì ha,Ï hi (by omega),Ě]
 ·try dsimp only
  unfold vS;rw[ã]
 ·have:l.any (fun a=>a==x)=l.contains x:=by
   rw[dO,fc,ez];constructor
   ·rintro⟨a,ha,e⟩; rw[←eq_of_beq e]; exact ha
   ·intro h; exact⟨x,h,by simp⟩
  rw[this]
  cases l.contains x<;>rfl
def aiF {a b:List Int} {i:Nat} {x:Int} (h:a[i]?=some x):é (a.take (i+1)) b=é (a.take i) b++if b.contains x then[] else[x]:=by
 rw[take_succ h,é,é,gH];congr 1
 cases hx:b.contains x<;>simp only[dV,hx,eo,Bool.not_false,dv,if_false,if_true,d8]
def aab {a b:List Int} (ha:a.length≤1000000) (hb:b.length≤1000000):kj a b=some (é a b):=by
 unfold kj Qe;refine ô a (fun i=>é (a.take i) b) _ rfl (fun i x hi hx kn=>?_) (fun kn=>?_)
 ·try dsimp only
  unfold rR
  have hl:(é (a.take i) b).length≤1000000:=by
   have:=Ak (a.take i) b;rw[dj] at this;omega
  rw[Ö hi,Ì hx,ap0 hb,À,aiF hx]
  cases b.contains x with
  |true=>rw[Ô (by rfl),Ï hi (by omega)]; simp
  |false=>rw[Ø (by rfl),Ì hx,Ú (by simp only[dE]; omega),Am.iff_true,Ï hi (by omega)]; simp
 ·try dsimp only
  unfold rR;rw[ã,List.take_length]
def FJ (a b:List Int):Int:=(é a b).head?.getD 0
def tK {a b:List Int} (ha:a.length≤1000000) (hb:b.length≤1000000):lZ a b=some (FJ a b):=by
 unfold lZ XM FJ;rw[aab ha hb,À,ä]
 cases h:é a b with
 |nil=>rfl
 |cons x t =>
  rw[Ô (by simp[ieq]; omega)];exact Ì (i:=0) rfl _
def OM {b:â} (hn:b.2.1.length≤1000000) (id:Int):qS b id=some (match b.2.1.findIdx? (fun g=>g.1==id) with|some j=>(j:Int)|none=>-1):=by
 unfold qS Qj;refine Eq.trans (iA b.2.1 (fun g=>g.1==id) (fun z=>some z) (some (-1)) (fun i a hi ha kn=>?_) (fun kn=>?_)) ?_
 ·try dsimp only
  unfold rS;rw[Ö hi,Ì ha,Ï hi (by omega),Ě]
 ·try dsimp only
  unfold rS;rw[ã]
 ·cases List.findIdx? (fun g:ñ=>g.1==id) b.2.1<;>rfl
def Bl {b:â} {id:Int}:(∃j g,b.2.1.findIdx? (fun g=>g.1==id)=some j∧b.2.1[j]?=some g∧Ź b id=some g)∨(b.2.1.findIdx? (fun g=>g.1==id)=none∧Ź b id=none):=by
 unfold Ź;rw[ZF]
 cases h:b.2.1.findIdx? (fun g=>g.1==id) with
 |none=>exact .inr ⟨rfl,rfl⟩
 |some j =>
  obtain⟨hj,_,_⟩:=dA.1 h;exact .inl ⟨j,_,rfl,cO hj,cO hj⟩
def ic (b:â) (id day:Int):Int:=match Ź b id with|some g=>if day<g.2.1 then 4 else 0|none=>5
def I8 {b:â} (hn:b.2.1.length≤1000000) (id day:Int):m6 b id day=some (ic b id day):=by
 unfold m6 JL ic;rw[OM hn,À];rcases Bl (b:=b) (id:=id) with⟨j,g,h1,h2,h3⟩|⟨h1,h2⟩
 ·rw[h1,h3]
  try dsimp only
  rw[Ô (by simp[ilt]),Ì h2,Ě]
  by_cases hd:day<g.2.1
  ·rw[if_pos (by simpa[ilt] using hd),if_pos hd]
  ·rw[if_neg (by simpa[ilt] using hd),if_neg hd]
 ·rw[h1,h2];rfl
def DI {b:â} (hi:b.2.1.Pairwise fun a b=>a.1<b.1) (id day:Int):ic b id day=nF (iO b) id day:=by
 unfold ic nF;rw[A4 hi]
 cases Ź b id<;>rfl
def ahV {b:â} (hn:b.2.2.2.1.length≤1000000) (id day:Int):Aq b id day=some (match me b id day with|some l=>(l,true)|none=>((0,(0,0),0),false)):=by
 unfold Aq Qc;refine akH b.2.2.2.1 (fun _=>((0:Int),(0:Int),(0:Int),(0:Int))) _ (fun i=>∀l∈b.2.2.2.1.take i,(l.1==id&&inP day l.2.1.1 l.2.1.2)=false) rfl (by simp) (fun i a hi ha hP kn=>?_) (fun hP kn=>?_)
 ·try dsimp only
  unfold rQ;rw[Ö hi,Ì ha]
  by_cases hm:(a.1==id&&inP day a.2.1.1 a.2.1.2)=true
  ·refine .inl ?_;have hm2:=hm;simp only[inP,cR,beq_iff_eq,decide_eq_true_eq] at hm2;rw[Ø (by simp[ieq,hm2.1]),Ø (by simp[ile,hm2.2.1]),Ø (by simp[ile,hm2.2.2])]
   have hf:me b id day=some a:=by
    unfold me;obtain⟨hi',rfl⟩:=List.getElem?_eq_some_iff.1 ha;rw[List.find?_eq_some_iff_getElem];refine⟨hm,i,hi',rfl,fun j hj=>?_⟩;have:=hP b.2.2.2.1[j] (List.mem_iff_getElem.2 ⟨j,by rw[List.length_take]; omega,by rw[List.getElem_take]⟩);simp[this]
   rw[hf]
  ·refine .inr ⟨fun l hl=>?_,?_⟩
   ·rw[take_succ ha,cX,dg] at hl;rcases hl with hl|rfl
    ·exact hP l hl
    ·simpa using hm
   ·have hm2:=hm;simp only[inP,cR,beq_iff_eq,decide_eq_true_eq] at hm2
    by_cases h1:a.1=id
    ·by_cases h2:a.2.1.1≤day
     ·rw[Ø (by simp[ieq,h1]),Ø (by simp[ile,h2]),Ô (by simp[ile]; exact Int.lt_of_not_ge fun h3=>hm2 ⟨h1,h2,h3⟩),Ï hi (by omega)]
     ·rw[Ø (by simp[ieq,h1]),Ô (by simp[ile]; omega),Ï hi (by omega)]
    ·rw[Ô (by simp[ieq,h1]),Ï hi (by omega)]
 ·try dsimp only
  unfold rQ;rw[ã]
  have:me b id day=none:=by
   unfold me;rw[List.find?_eq_none];intro l hl;have:=hP l (by rw[List.take_length]; exact hl);simp[this]
  rw[this]
def aot {b:â} (hn:b.2.2.1.length≤1000000) (id day:Int):IA b id day=some (MZ b id day):=by
 unfold IA PV;refine Eq.trans (Ń b.2.2.1 (fun u=>u.1==id&&u.2==day) (fun _=>some true) (some true) (some false) (fun _=>rfl) (fun i a hi ha kn=>?_) (fun kn=>?_)) ?_
 ·try dsimp only
  unfold rN;rw[Ö hi,Ì ha,Ì ha,Ï hi (by omega)]
  cases h1:(a.1==id) with
  |false=>have:ieq a.1 id=false:=h1; simp[this]
  |true =>
   have:ieq a.1 id=true:=h1;rw[this]
   cases h2:(a.2==day) with
   |false=>have:ieq a.2 day=false:=h2; simp[this]
   |true=>have:ieq a.2 day=true:=h2; simp[this]
 ·try dsimp only
  unfold rN;rw[ã]
 ·unfold MZ
  cases b.2.2.1.any _<;>rfl
def ams (a b:Nat):Br a b=some ((Nat.gcd a b:Nat):Int):=by
 unfold Br Yn;refine Ĕ (fun x:Int×Int=>∃c d:Nat,x=((c:Int),(d:Int))∧Nat.gcd c d=Nat.gcd a b) (fun x=>x.2.toNat) ?_ ⟨a,b,rfl,rfl⟩;rintro x ⟨c,d,rfl,hg⟩
 cases d with
 |zero =>
  refine .inl fun kn=>?_;rw[Nat.gcd_zero_right] at hg;unfold vT;simp[hg,ine]
 |succ d =>
  refine .inr ⟨(((d+1:Nat):Int),((c % (d+1):Nat):Int)),⟨d+1,c % (d+1),rfl,?_⟩,?_,fun kn=>?_⟩
  ·rw[←hg,gX c (d+1),Nat.gcd_rec (d+1) c,gX]
  ·have:=gJ c (gI d);simp only[dk];omega
  ·unfold vT
   have h1:ine ((d+1:Nat):Int) 0=true:=by simp[ine]; omega
   have h2:Ŏ ((d+1:Nat):Int) 0=false:=by simp[Ŏ]; omega
   simp only[h1,Ø Ô h2];congr 1
def amt {n:Int} (h : -9223372036854775807≤n∧n≤9223372036854775807):IE n=some (n.natAbs:Int):=by
 unfold IE Yr
 by_cases hn:n<0
 ·rw[Ø (by simpa[ilt] using hn),Õ (by omega) (by omega)];congr 1;omega
 ·rw[Ô (by simpa[ilt] using hn)];congr 1;omega
def amk (r:Int×Int):Bp r=some (Ly r):=by
 unfold Bp JW Ly
 by_cases h1:1≤r.2
 ·rw[Ô (by simp[ilt]; omega)]
  by_cases h2:r.2≤2147483647
  ·rw[Ô (by simp[igt]; omega)]
   by_cases h3:r.1 < -2147483647
   ·rw[Ø (by simp[ilt]; omega)]
    have:¬((r.1.natAbs:Int)≤2147483647):=by omega
    simp[this]
   ·rw[Ô (by simp[ilt]; omega)]
    by_cases h4:2147483647<r.1
    ·rw[Ø (by simp[igt]; omega)]
     have:¬((r.1.natAbs:Int)≤2147483647):=by omega
     simp[this]
    ·rw[Ô (by simp[igt]; omega),amt ⟨by omega,by omega⟩,À]
     have h5:r.2=((r.2.natAbs:Nat):Int):=by omega
     have h6:((r.1.natAbs:Int)≤2147483647):=by omega
     rw[h5,ams,À,←h5];congr 1;rw[dO];simp only[ieq,beq_iff_eq,h1,h2,h6,decide_true,dW,decide_eq_true_eq];omega
  ·rw[Ø (by simp[igt]; omega)];simp[h2]
 ·rw[Ø (by simp[ilt]; omega)];simp[h1]
def amj (g:ñ):Bo g=some (qN g):=by
 unfold Bo JJ qN;rw[amk,AM,AM,aac,AM,xi,AM];simp only[À]
 have e:igt g.2.2.2.2.1.2 100=!decide (g.2.2.2.2.1.2≤100):=by
  rw[dO]; simp[igt]
 rw[e]
 cases Ly g.2.2.2.2.1<;>cases inP g.2.2.2.2.1.1 (-1000) 1000<;>cases decide (g.2.2.2.2.1.2≤100)<;>cases inP g.1 1 1099511627776<;>cases Jd g.2.1<;>cases inP g.2.2.1 1 1125899906842624<;>cases j7 g.2.2.2.1 (-1073741824) 1073741824<;>rfl
def aeD {l:List Int}:∀(m:List Int) (j:Nat) (x:Bool),Ľ (xW l) j m=some x→x=false:=by
 intro m
 induction m with
 |nil=>intro j x h; cases h
 |cons a m ih =>
  intro j x h;unfold Ľ at h
  cases hp:xW l j a with
  |none=>rw[hp] at h; exact ih _ _ h
  |some y =>
   rw[hp] at h;cases h;unfold xW at hp
   split at hp
   ·cases hp; rfl
   ·split at hp
    ·cases hp; rfl
    ·cases hp
def ahU {l:List Int} (hn:l.length≤1000000):Ap l=some (mi l):=by
 unfold Ap P0;refine Eq.trans (kZ l (xW l) some (some (decide (l.length≤6))) (fun i a hi ha kn=>?_) (fun kn=>?_)) ?_
 ·try dsimp only
  unfold rO;rw[Ö hi,Ì ha,AM,À];unfold xW
  cases inP a 1 1099511627776 with
  |false=>rfl
  |true =>
   simp only[eo,ø,dv,if_false];rcases fC i with h0|h0
   ·subst h0
    have:igt ((0:Nat):Int) 0=false:=by simp[igt]
    rw[Ô this,Ï hi (by omega)];simp[EY]
   ·obtain⟨q,hq⟩:=Fq hi h0
    have h1:igt (i:Int) 0=true:=by simp[igt]; omega
    rw[Ø h1,Ì ha,SH h0 (by omega),Ip h0 hq];simp only[EY,h0,decide_true,Bool.true_and,hq,Option.any_some];unfold ile
    cases h2:decide (a≤q) with
    |true=>rfl
    |false =>
     rw[ø,Ï hi (by omega)];rfl
 ·try dsimp only
  unfold rO;rw[ã,ä];simp[ile];omega
 ·unfold mi
  cases h:Ľ (xW l) 0 l with
  |none=>rfl
  |some x=>rw[aeD _ _ _ h]
def amh {c:Cmp} (hA:c.2.2.1.length≤1000000) (hB:c.2.2.2.1.length≤1000000):Bm c=some (M7 c):=by
 unfold Bm JG M7;rw[ahU hA,ahU hB,AM,aac,AM,AM,xi];simp only[À]
 cases mi c.2.2.1<;>cases mi c.2.2.2.1<;>cases inP c.1 1 1099511627776<;>cases Jd c.2.1<;>cases inP c.2.2.2.2.1 (-1125899906842624) 1125899906842624<;>cases inP c.2.2.2.2.2.1 0 1073741824<;>cases j7 c.2.2.2.2.2.2 (-10000) 10000<;>rfl
def aaj (b:â) (u:Int×Int):Int:=if !Jd u.2 then 1 else ic b u.1 u.2
def agr {b:â} (hi:b.2.1.Pairwise fun a b=>a.1<b.1) (u:Int×Int):aaj b u=ah5 (iO b) u.1 u.2:=by
 unfold aaj ah5;rw[DI hi]
def ahp (e:Int):Option Int:=if e=0 then none else some e
def KY {α:Type} (E:Nat→α→Int):∀(k:Nat) (l:List α),Ľ (fun i a=>ahp (E i a)) k l=(l.mapIdx fun i a=>E (i+k) a).find? (fun e=>e != 0)
 |_,[]=>rfl
 |k,a::t=>by
  unfold Ľ;rw[KY E (k+1) t,List.mapIdx_cons,List.find?_cons];unfold ahp
  by_cases h:E k a=0
  ·simp only[h,if_true,du];have:((0:Int) != 0)=false:=rfl;rw[this]
   have e:(fun(i:Nat) (a:α)=>E (i+(k+1)) a)=fun i a=>E (i+1+k) a:=by
    funext i a;congr 1;omega
   rw[e]
  ·simp only[h,if_false,du]
   have:(E k a != 0)=true:=by simpa using h
   rw[this]
def Sj {α:Type} (E:Nat→α→Int) (l:List α):Ľ (fun i a=>ahp (E i a)) 0 l=(l.mapIdx E).find? (fun e=>e != 0):=KY E 0 l
def Sk {α:Type} (E:α→Int) (l:List α):Ľ (fun _ a=>ahp (E a)) 0 l=(l.map E).find? (fun e=>e != 0):=by
 rw[KY (fun _ a=>E a) 0 l];congr 1
 exact List.ext_getElem (by simp) fun i h1 h2=>by simp
def aoo {b:â} (hs:Ž b):Iy b=some (((b.2.2.1.map (aaj b)).find? (fun e=>e != 0)).getD 0):=by
 have h1:=hs.gauges;have h2:=hs.uses;unfold Iy PJ;refine Eq.trans (kZ b.2.2.1 (fun _ u=>ahp (aaj b u)) some (some 0) (fun i a hi ha kn=>?_) (fun kn=>?_)) ?_
 ·try dsimp only
  unfold rI;rw[Ö hi,Ì ha,aac,À];unfold aaj ahp
  cases Jd a.2 with
  |false=>rfl
  |true =>
   rw[Ô (by rfl),Ì ha,Ì ha,I8 (b:=((b.1.1,b.1.2),b.2.1,b.2.2.1,b.2.2.2.1,b.2.2.2.2.1,b.2.2.2.2.2)) (by simp only; omega),À,Ï hi (by omega)];have e:ic ((b.1.1,b.1.2),b.2.1,b.2.2.1,b.2.2.2.1,b.2.2.2.2.1,b.2.2.2.2.2) a.1 a.2=ic b a.1 a.2:=rfl;rw[e]
   by_cases hz:ic b a.1 a.2=0
   ·rw[Ô (by simp[ine,hz])]; simp[hz]
   ·rw[Ø (by simp[ine,hz])]; simp[hz]
 ·try dsimp only
  unfold rI;rw[ã]
 ·rw[Sk]
  cases List.find? (fun e=>e != 0) (b.2.2.1.map (aaj b))<;>rfl
def U5 (b:â) (i:Nat) (l:Lp):Int :=
 if !j7 l.2.1 0 20000 then 1 else if !inP l.2.2 0 1048576 then 1 else if ic b l.1 l.2.1.1 != 0 then ic b l.1 l.2.1.1 else
 if (b.2.2.2.1.take i).any (fun x=>x.1==l.1&&(decide (x.2.1.1≤l.2.1.2)&&decide (l.2.1.1≤x.2.1.2))) then 9 else
 if b.2.2.1.any (fun u=>u.1==l.1&&inP u.2 l.2.1.1 l.2.1.2) then 9 else 0
def akO {b:â} (hi:b.2.1.Pairwise fun a b=>a.1<b.1) (i:Nat) (l:Lp):U5 b i l=U6 b (iO b) i l:=by
 unfold U5 U6;rw[DI hi]
def ami {b:â} (hs:Ž b):Bn b=some (((b.2.2.2.1.mapIdx (U5 b)).find? (fun e=>e != 0)).getD 0):=by
 have h1:=hs.gauges;have h2:=hs.uses;have h3:=hs.loans;unfold Bn JH;refine Eq.trans (kZ b.2.2.2.1 (fun i l=>ahp (U5 b i l)) some (some 0) (fun i l hi hl kn=>?_) (fun kn=>?_)) ?_
 ·try dsimp only
  unfold pl;rw[Ö hi,Ì hl,xi,À];unfold U5 ahp
  cases j7 l.2.1 0 20000 with
  |false=>rfl
  |true =>
  rw[Ô (by rfl),AM,À]
  cases inP l.2.2 0 1048576 with
  |false=>rfl
  |true =>
  rw[Ô (by rfl),I8 (b:=((b.1.1,b.1.2),b.2.1,b.2.2.1,b.2.2.2.1,b.2.2.2.2.1,b.2.2.2.2.2)) (by simp only; omega),À];have e:ic ((b.1.1,b.1.2),b.2.1,b.2.2.1,b.2.2.2.1,b.2.2.2.2.1,b.2.2.2.2.2) l.1 l.2.1.1=ic b l.1 l.2.1.1:=rfl;rw[e]
  by_cases hz:ic b l.1 l.2.1.1=0
  ·rw[Ô (by simp[ine,hz])]
   have hl9:(b.2.2.2.1.take i).length=i:=by rw[dj]; omega
   have inner:Î (fun(v21:Int) kk23=>lL b.2.2.1 l.1 l.2.1.1 l.2.1.2 v21 (fun u22=>kk23 u22) (fun z18=>(some z18:Option Int)) (fun _=>ck ((i:Int)+(1:Int)) fun n20=>kn n20)) (0:Int)=if b.2.2.1.any (fun u=>u.1==l.1&&inP u.2 l.2.1.1 l.2.1.2) then some 9 else kn ((i:Int)+1):=by
    refine Ń b.2.2.1 _ (fun _=>some 9) (some 9) (kn ((i:Int)+1)) (fun _=>rfl) (fun j a hj ha kn'=>?_) (fun kn'=>?_)
    ·try dsimp only
     unfold lL;rw[Ö hj,Ì ha,Ì ha,AM,À,Ï hj (by omega)]
     cases hq:(a.1==l.1) with
     |false=>have:ieq a.1 l.1=false:=hq; simp[this]
     |true =>
      have:ieq a.1 l.1=true:=hq;rw[this]
      cases inP a.2 l.2.1.1 l.2.1.2<;>simp
    ·try dsimp only
     unfold lL;rw[ã];dsimp only;rw[Ï hi (by omega)]
   try dsimp only
   rw[inner];refine eV (Ń (b.2.2.2.1.take i) (fun x=>x.1==l.1&&(decide (x.2.1.1≤l.2.1.2)&&decide (l.2.1.1≤x.2.1.2))) (fun _=>some 9) (some 9) (if b.2.2.1.any (fun u=>u.1==l.1&&inP u.2 l.2.1.1 l.2.1.2) then some 9 else kn ((i:Int)+1)) (fun _=>rfl) (fun j a hj ha kn'=>?_) (fun kn'=>?_)) ?_
   ·try dsimp only
    unfold pk;rw[hl9] at hj
    have ha':b.2.2.2.1[j]?=some a:=by rwa [List.getElem?_take_of_lt hj] at ha
    rw[Ø (show ilt (j:Int) (i:Int)=true by simp[ilt]; omega),Ì ha',Ì ha',Ì ha',Ï hj (by omega)]
    cases hq:(a.1==l.1) with
    |false=>have:ieq a.1 l.1=false:=hq; simp[this]
    |true =>
     have:ieq a.1 l.1=true:=hq;rw[this]
     cases h5:decide (a.2.1.1≤l.2.1.2)<;>cases h6:decide (l.2.1.1≤a.2.1.2)<;>simp[ile,h5,h6,Ě]<;>simp_all
   ·try dsimp only
    unfold pk;rw[hl9,Ô (show ilt (i:Int) (i:Int)=false by simp[ilt])]
   ·simp only[hz]
    cases List.any (b.2.2.2.1.take i) _<;>cases b.2.2.1.any _<;>rfl
  ·rw[Ø (by simp[ine,hz])]; simp[hz]
 ·try dsimp only
  unfold pl;rw[ã]
 ·rw[Sj (U5 b)]
  cases(b.2.2.2.1.mapIdx (U5 b)).find? (fun e=>e != 0)<;>rfl
def Cb (b:â) (c:Cmp):Int :=
 if (c.2.2.1++c.2.2.2.1).any (fun id=>ic b id c.2.1==5) then 5 else
 if (c.2.2.1++c.2.2.2.1).any (fun id=>ic b id c.2.1 != 0) then 4 else
 if (c.2.2.1++c.2.2.2.1).any (fun id=>(me b id c.2.1).isSome) then 9 else
 if 1<(é c.2.2.1 c.2.2.2.1).length then 1 else if 1<(é c.2.2.2.1 c.2.2.1).length then 1 else
 if (é c.2.2.1 c.2.2.2.1).length+(é c.2.2.2.1 c.2.2.1).length=0 then 1 else 0
def anb {b:â} (hi:b.2.1.Pairwise fun a b=>a.1<b.1) (c:Cmp):Cb b c=Cc b (iO b) c:=by
 unfold Cb Cc;simp only[DI hi]
 by_cases h5:(c.2.2.1++c.2.2.2.1).any (fun id=>nF (iO b) id c.2.1==5)=true
 ·rw[if_pos h5,if_pos h5]
 ·rw[if_neg h5,if_neg h5]
  have e:(c.2.2.1++c.2.2.2.1).any (fun id=>nF (iO b) id c.2.1 != 0)=(c.2.2.1++c.2.2.2.1).any (fun id=>nF (iO b) id c.2.1==4):=by
   rw[dO,fc,fc];constructor
   ·rintro⟨x,hx,h⟩;refine⟨x,hx,?_⟩;rcases PC (iO b) x c.2.1 with h1|h1|h1
    ·rw[h1] at h; cases h
    ·rw[h1]; rfl
    ·exact absurd (fc.2 ⟨x,hx,by rw[h1]; rfl⟩) h5
   ·rintro⟨x,hx,h⟩;refine⟨x,hx,?_⟩;rw[eq_of_beq h]; rfl
  rw[e]
def aeo {b:â} {id d:Int}:(ic b id d==5)=(b.2.1.findIdx? (fun g=>g.1==id)).isNone:=by
 unfold ic;rcases Bl (b:=b) (id:=id) with⟨j,g,h1,h2,h3⟩|⟨h1,h2⟩
 ·rw[h1,h3]
  try dsimp only
  split<;>rfl
 ·rw[h1,h2]; rfl
set_option maxHeartbeats 1000000 in
def adZ {b:â} (hs:Ž b) {c:Cmp} (hA:c.2.2.1.length≤1000) (hB:c.2.2.2.1.length≤1000):jU b c=some (Cb b c):=by
 have h1:=hs.gauges;have h3:=hs.loans;unfold jU vO Cb;rw[Ú (by omega),Am.iff_true,List.nil_append,Ú (by omega),Am.iff_true]
 have hl:(c.2.2.1++c.2.2.2.1).length≤2000:=by rw[cW]; omega
 generalize hP:c.2.2.1++c.2.2.2.1=P at hl
 have hol:∀{i:Nat},i<P.length→((ile (0:Int) (i:Int))&&(ilt (i:Int) (ĉ P)))=true:=fun {i} hi=>by simp[ile,ilt,ĉ]; omega
 have third:Î (fun(v19:Int) kk21=>Φ b.1.1 b.1.2 b.2.1 b.2.2.1 b.2.2.2.1 b.2.2.2.2.1 b.2.2.2.2.2 c.2.1 P v19 (fun u20=>kk21 u20) (fun z14=>some z14) (fun _=>Ã (kj c.2.2.1 c.2.2.2.1) fun r16=>Ã (kj c.2.2.2.1 c.2.2.1) fun r17=>ifb (igt (Û r16) (1:Int)) (some (1:Int)) (ifb (igt (Û r17) (1:Int)) (some (1:Int)) (ck ((Û r16)+(Û r17)) fun n18=>ifb (ieq n18 (0:Int)) (some (1:Int)) (some (0:Int)))))) (0:Int) =
  some (if P.any (fun id=>(me b id c.2.1).isSome) then 9 else if 1<(é c.2.2.1 c.2.2.2.1).length then 1 else if 1<(é c.2.2.2.1 c.2.2.1).length then 1 else if (é c.2.2.1 c.2.2.2.1).length+(é c.2.2.2.1 c.2.2.1).length=0 then 1 else 0):=by
  refine eV (Ń P (fun id=>(me b id c.2.1).isSome) (fun _=>some 9) (some 9) (some (if 1<(é c.2.2.1 c.2.2.2.1).length then 1 else if 1<(é c.2.2.2.1 c.2.2.1).length then 1 else if (é c.2.2.1 c.2.2.2.1).length+(é c.2.2.2.1 c.2.2.1).length=0 then 1 else 0)) (fun _=>rfl) (fun i a hi ha kn=>?_) (fun kn=>?_)) ?_
  ·try dsimp only
   unfold Φ;rw[Ö hi,ĩ (hol hi),Ī ha,ahV (b:=((b.1.1,b.1.2),b.2.1,b.2.2.1,b.2.2.2.1,b.2.2.2.2.1,b.2.2.2.2.2)) (by simp only; omega),À,Ï hi (by omega)];have e:me ((b.1.1,b.1.2),b.2.1,b.2.2.1,b.2.2.2.1,b.2.2.2.2.1,b.2.2.2.2.2) a c.2.1=me b a c.2.1:=rfl;rw[e]
   cases me b a c.2.1<;>rfl
  ·try dsimp only
   unfold Φ;rw[ã];dsimp only;have l1:=Ak c.2.2.1 c.2.2.2.1;have l2:=Ak c.2.2.2.1 c.2.2.1;rw[aab (by omega) (by omega),À,aab (by omega) (by omega),À];simp only[ä]
   by_cases q1:1<(é c.2.2.1 c.2.2.2.1).length
   ·rw[Ø (by simp[igt]; omega),if_pos q1]
   ·rw[Ô (by simp[igt]; omega),if_neg q1]
    by_cases q2:1<(é c.2.2.2.1 c.2.2.1).length
    ·rw[Ø (by simp[igt]; omega),if_pos q2]
    ·rw[Ô (by simp[igt]; omega),if_neg q2,Õ (by omega) (by omega)]
     by_cases q3:(é c.2.2.1 c.2.2.2.1).length+(é c.2.2.2.1 c.2.2.1).length=0
     ·rw[Ø (by simp[ieq]; omega),if_pos q3]
     ·rw[Ô (by simp[ieq]; omega),if_neg q3]
  ·cases P.any _<;>rfl
 have second:Î (fun(v22:Int) kk24=>jb b.1.1 b.1.2 b.2.1 b.2.2.1 b.2.2.2.1 b.2.2.2.2.1 b.2.2.2.2.2 c.2.1 P v22 (fun u23=>kk24 u23) (fun z9=>some z9) (fun _=>Î (fun(v19:Int) kk21=>Φ b.1.1 b.1.2 b.2.1 b.2.2.1 b.2.2.2.1 b.2.2.2.2.1 b.2.2.2.2.2 c.2.1 P v19 (fun u20=>kk21 u20) (fun z14=>some z14) (fun _=>Ã (kj c.2.2.1 c.2.2.2.1) fun r16=>Ã (kj c.2.2.2.1 c.2.2.1) fun r17=>ifb (igt (Û r16) (1:Int)) (some (1:Int)) (ifb (igt (Û r17) (1:Int)) (some (1:Int)) (ck ((Û r16)+(Û r17)) fun n18=>ifb (ieq n18 (0:Int)) (some (1:Int)) (some (0:Int)))))) (0:Int))) (0:Int) =
  some (if P.any (fun id=>ic b id c.2.1 != 0) then 4 else if P.any (fun id=>(me b id c.2.1).isSome) then 9 else if 1<(é c.2.2.1 c.2.2.2.1).length then 1 else if 1<(é c.2.2.2.1 c.2.2.1).length then 1 else if (é c.2.2.1 c.2.2.2.1).length+(é c.2.2.2.1 c.2.2.1).length=0 then 1 else 0):=by
  rw[third];refine eV (Ń P (fun id=>ic b id c.2.1 != 0) (fun _=>some 4) (some 4) (some (if P.any (fun id=>(me b id c.2.1).isSome) then 9 else if 1<(é c.2.2.1 c.2.2.2.1).length then 1 else if 1<(é c.2.2.2.1 c.2.2.1).length then 1 else if (é c.2.2.1 c.2.2.2.1).length+(é c.2.2.2.1 c.2.2.1).length=0 then 1 else 0)) (fun _=>rfl) (fun i a hi ha kn=>?_) (fun kn=>?_)) ?_
  ·try dsimp only
   unfold jb;rw[Ö hi,ĩ (hol hi),Ī ha,I8 (b:=((b.1.1,b.1.2),b.2.1,b.2.2.1,b.2.2.2.1,b.2.2.2.2.1,b.2.2.2.2.2)) (by simp only; omega),À,Ï hi (by omega)];have e:ic ((b.1.1,b.1.2),b.2.1,b.2.2.1,b.2.2.2.1,b.2.2.2.2.1,b.2.2.2.2.2) a c.2.1=ic b a c.2.1:=rfl;rw[e,Ě]
  ·try dsimp only
   unfold jb;rw[ã]
  ·cases P.any (fun id=>ic b id c.2.1 != 0)<;>rfl
 rw[second];refine eV (Ń P (fun id=>ic b id c.2.1==5) (fun _=>some 5) (some 5) (some (if P.any (fun id=>ic b id c.2.1 != 0) then 4 else if P.any (fun id=>(me b id c.2.1).isSome) then 9 else if 1<(é c.2.2.1 c.2.2.2.1).length then 1 else if 1<(é c.2.2.2.1 c.2.2.1).length then 1 else if (é c.2.2.1 c.2.2.2.1).length+(é c.2.2.2.1 c.2.2.1).length=0 then 1 else 0)) (fun _=>rfl) (fun i a hi ha kn=>?_) (fun kn=>?_)) ?_
 ·try dsimp only
  unfold kw;rw[Ö hi,ĩ (hol hi),Ī ha,OM (b:=((b.1.1,b.1.2),b.2.1,b.2.2.1,b.2.2.2.1,b.2.2.2.2.1,b.2.2.2.2.2)) (by simp only; omega),À,Ï hi (by omega),aeo]
  try dsimp only
  cases List.findIdx? (fun g:ñ=>g.1==a) b.2.1 with
  |none=>rfl
  |some j =>
   have:ilt (j:Int) 0=false:=by simp[ilt]
   rw[Ô this]; rfl
 ·try dsimp only
  unfold kw;rw[ã]
 ·cases P.any (fun id=>ic b id c.2.1==5)<;>rfl
structure Pre (b:â):Prop where
 size:Ž b
 gauge:∀g∈b.2.1,qN g=true
 cmp:∀c∈b.2.2.2.2.1,Jd c.2.1=true∧(é c.2.2.1 c.2.2.2.1).length≤1∧(é c.2.2.2.1 c.2.2.1).length≤1
 look:∀n∈b.2.2.2.2.2,Jd n.2=true
def abk {c:Cmp} (h:M7 c=true):Jd c.2.1=true:=by
 have:=((Ŵ c).1 h).2.1;simp[Jd,inP,this.1,this.2]
def Ē.pre {b:â} (h:Ē b):Pre b :=
 ⟨h.size,h.gauge,fun c hc=>⟨abk (h.nums hc),(h.lefts hc).1,(h.lefts hc).2.1⟩,fun n hn=>(by have:=(aak h (h.looks n hn)).1; simp[Jd,inP,this.1,this.2])⟩
def Xw {a b:List Int} (h:(é a b).length≤1) {id:Int} (h0:id≠0):FJ a b=id↔id∈a∧id∉b:=by
 rw[←kh];unfold FJ
 cases hl:é a b with
 |nil =>
  simp only[List.head?_nil,Option.getD_none,fR,iff_false];exact fun e=>h0 e.symm
 |cons x t =>
  have:t=[]:=by
   rw[hl] at h;simp only[df] at h;exact dm.1 (by omega)
  subst this;simp only[List.head?_cons,fQ,dg];exact eq_comm
def N9 (b:â) (g:ñ) (d:Int):Bool :=
 g.2.1==d||b.2.2.2.2.1.any (fun c=>c.2.1==d&&(FJ c.2.2.1 c.2.2.2.1==g.1||FJ c.2.2.2.1 c.2.2.1==g.1))||b.2.2.2.2.2.any (fun n=>n.1==g.1&&n.2==d)
def aor {b:â} (hs:Ž b) (g:ñ) (d:Int):Iz b g d=some (N9 b g d):=by
 have h1:=hs.compares;have h2:=hs.looks;unfold Iz PR N9
 cases hm:(g.2.1==d) with
 |true =>
  have:ieq g.2.1 d=true:=hm;rw[Ø this];simp
 |false =>
  have:ieq g.2.1 d=false:=hm;rw[Ô this]
  have inner:Î (fun(v14:Int) kk16=>nW d b.2.2.2.2.2 g.1 v14 (fun u15=>kk16 u15) (fun z12=>some z12) (fun _=>some false)) (0:Int)=some (b.2.2.2.2.2.any (fun n=>n.1==g.1&&n.2==d)):=by
   refine eV (Ń b.2.2.2.2.2 (fun n=>n.1==g.1&&n.2==d) (fun _=>some true) (some true) (some false) (fun _=>rfl) (fun i a hi ha kn=>?_) (fun kn=>?_)) ?_
   ·try dsimp only
    unfold nW;rw[Ö hi,Ì ha,Ì ha,Ï hi (by omega)]
    cases h1:(a.1==g.1) with
    |false=>have:ieq a.1 g.1=false:=h1; simp[this]
    |true =>
     have:ieq a.1 g.1=true:=h1;rw[this]
     cases h2:(a.2==d) with
     |false=>have:ieq a.2 d=false:=h2; simp[this]
     |true=>have:ieq a.2 d=true:=h2; simp[this]
   ·try dsimp only
    unfold nW;rw[ã]
   ·cases b.2.2.2.2.2.any _<;>rfl
  rw[inner];refine eV (Ń b.2.2.2.2.1 (fun c=>c.2.1==d&&(FJ c.2.2.1 c.2.2.2.1==g.1||FJ c.2.2.2.1 c.2.2.1==g.1)) (fun _=>some true) (some true) (some (b.2.2.2.2.2.any (fun n=>n.1==g.1&&n.2==d))) (fun _=>rfl) (fun i a hi ha kn=>?_) (fun kn=>?_)) ?_
  ·have hp:=hs.piles a (cZ ha)
   try dsimp only
   unfold rM;rw[Ö hi,Ì ha,tK (by omega) (by omega),tK (by omega) (by omega),Ï hi (by omega)];simp only[À]
   cases h1:(a.2.1==d) with
   |false=>have:ieq a.2.1 d=false:=h1; simp[this]
   |true =>
    have:ieq a.2.1 d=true:=h1;rw[this]
    cases h2:(FJ a.2.2.1 a.2.2.2.1==g.1) with
    |true=>have:ieq (FJ a.2.2.1 a.2.2.2.1) g.1=true:=h2; simp[this]
    |false =>
     have:ieq (FJ a.2.2.1 a.2.2.2.1) g.1=false:=h2;rw[this]
     cases h3:(FJ a.2.2.2.1 a.2.2.1==g.1) with
     |true=>have:ieq (FJ a.2.2.2.1 a.2.2.1) g.1=true:=h3; simp[this]
     |false=>have:ieq (FJ a.2.2.2.1 a.2.2.1) g.1=false:=h3; simp[this]
  ·try dsimp only
   unfold rM;rw[ã]
  ·cases b.2.2.2.2.1.any _<;>rfl
def amb {b:â} (h:Pre b) {g:ñ} (hg:g∈b.2.1) {d:Int}:N9 b g d=true↔d∈à b g:=by
 have hid:g.1≠0:=by
  have:=((vd g).1 (h.gauge g hg)).2.2.2.1;omega
 rw[je];unfold N9;simp only[Bool.or_eq_true,List.any_eq_true,Bool.and_eq_true,beq_iff_eq,or_assoc];refine or_congr eq_comm (or_congr ?_ Iff.rfl);constructor
 ·rintro⟨c,hc,e,h1⟩;obtain⟨_,l1,l2⟩:=h.cmp c hc;refine⟨c,hc,?_,e⟩;rw[Xw l1 hid,Xw l2 hid] at h1;intro he;rw[dO,ez,ez] at he;rcases h1 with⟨x,y⟩|⟨x,y⟩
  ·exact y (he.1 x)
  ·exact y (he.2 x)
 ·rintro⟨c,hc,h1,e⟩;obtain⟨_,l1,l2⟩:=h.cmp c hc;refine⟨c,hc,e,?_⟩;rw[Xw l1 hid,Xw l2 hid]
  by_cases ha:g.1∈c.2.2.1
  ·by_cases hb:g.1∈c.2.2.2.1
   ·exact absurd (by rw[dO,ez,ez]; exact⟨fun _=>hb,fun _=>ha⟩) h1
   ·exact .inl ⟨ha,hb⟩
  ·by_cases hb:g.1∈c.2.2.2.1
   ·exact .inr ⟨hb,ha⟩
   ·exact absurd (by rw[dO,ez,ez]; exact⟨fun x=>absurd x ha,fun x=>absurd x hb⟩) h1
def nx (v:Int) (D:List Int):Int:=D.foldl (fun m d=>if v<d then min m d else m) 20001
def akh (v:Int) (D:List Int) (d:Int):nx v (D++[d])=if v<d then min (nx v D) d else nx v D:=by
 unfold nx;rw[List.foldl_append];rfl
def Xx (v:Int):∀D:List Int,nx v D≤20001∧(∀d∈D,v<d→nx v D≤d)∧(nx v D=20001∨(nx v D∈D∧v<nx v D)):=by
 suffices H:∀(n:Nat) (D:List Int),D.length=n→nx v D≤20001∧(∀d∈D,v<d→nx v D≤d)∧(nx v D=20001∨(nx v D∈D∧v<nx v D)) from fun D=>H _ D rfl
 intro n
 induction n with
 |zero =>
  intro D hD;rw[dm.1 hD];exact⟨dw _,by simp,.inl rfl⟩
 |succ n ih =>
  intro D' hD'
  obtain⟨D,d,rfl⟩:∃D d,D'=D++[d]:=by
   rcases List.eq_nil_or_concat D' with rfl|⟨L,b,rfl⟩
   ·simp at hD'
   ·exact⟨L,b,by simp⟩
  obtain⟨h1,h2,h3⟩:=ih D (by simpa using hD');rw[akh]
  by_cases hd:v<d
  ·rw[if_pos hd];refine⟨by omega,fun x hx hv=>?_,?_⟩
   ·rcases cX.1 hx with hx|hx
    ·have:=h2 x hx hv; omega
    ·rw[dg] at hx; omega
   ·rcases Int.le_total (nx v D) d with h|h
    ·rw[Int.min_eq_left h];rcases h3 with h3|h3
     ·exact .inl h3
     ·exact .inr ⟨by simp[h3.1],h3.2⟩
    ·rw[Int.min_eq_right h];exact .inr ⟨by simp,hd⟩
  ·rw[if_neg hd];refine⟨h1,fun x hx hv=>?_,?_⟩
   ·rcases cX.1 hx with hx|hx
    ·exact h2 x hx hv
    ·rw[dg] at hx; omega
   ·rcases h3 with h3|h3
    ·exact .inl h3
    ·exact .inr ⟨by simp[h3.1],h3.2⟩
def apl {D:List Int} (hD:D.length≤1000000) (v:Int) (K:Int→Option (List (Int×Int))) :
 Î (fun(v18:Int×Int) kk21=>lM v D v18.1 v18.2 (fun u19 u20=>kk21 (u19,u20)) K) ((20001:Int),(0:Int))=K (nx v D):=by
 refine Ĕ (fun x:Int×Int=>∃k:Nat,k≤D.length∧x=(nx v (D.take k),(k:Int))) (fun x=>D.length-x.2.toNat) ?_ ⟨0,by omega,rfl⟩;rintro x ⟨k,hk,rfl⟩;rcases dn k D.length with hlt|hge
 ·refine .inr ⟨(nx v (D.take (k+1)),((k+1:Nat):Int)),⟨k+1,hlt,rfl⟩,by simp only[Int.toNat_natCast]; omega,fun kn=>?_⟩;have ha:D[k]?=some D[k]:=List.getElem?_eq_getElem hlt;unfold lM;have ho:ĉ D=((D.length:Nat):Int):=rfl;rw[Ö hlt,ho,ψ hlt,Ī ha,take_succ ha,akh]
  by_cases h:v<D[k]
  ·rw[Ø (by simpa[igt] using h),ψ hlt,Ī ha,Ï hlt (by omega),if_pos h,tz];simp
  ·rw[Ô (by simpa[igt] using h),Ï hlt (by omega),if_neg h];simp
 ·have:k=D.length:=by omega
  subst this;refine .inl fun kn=>?_;unfold lM;rw[ã,List.take_length]
def ajh (b:â) (g:ñ) (D:List Int) (v:Int):List Int:=(aaD D).filter fun d=>decide (v<d)&&N9 b g d
def S9 {b:â} {g:ñ} {D:List Int} (hD:∀d∈D,d≤20000) (v:Int):ajh b g D v=if nx v D<20001 then(if N9 b g (nx v D) then nx v D::ajh b g D (nx v D) else ajh b g D (nx v D)) else[]:=by
 obtain⟨h1,h2,h3⟩:=Xx v D;refine Z2 ((DK D).sublist List.filter_sublist) ?_ fun x=>?_
 ·split
  ·split
   ·rw[dK];refine⟨fun a ha=>?_,(DK D).sublist List.filter_sublist⟩;have:=(fI.1 ha).2;simp at this;omega
   ·exact(DK D).sublist List.filter_sublist
  ·exact List.Pairwise.nil
 ·have hm:∀v x,x∈ajh b g D v↔x∈D∧v<x∧N9 b g x=true:=by
   intro v x;unfold ajh;rw[List.mem_filter,rt];simp
  rw[hm]
  split
  ·rename_i hlt
   have h4:nx v D∈D∧v<nx v D:=by
    rcases h3 with h3|h3
    ·omega
    ·exact h3
   split
   ·rename_i ha;rw[dc,hm];constructor
    ·rintro⟨a,c,e⟩;have:=h2 x a c;rcases gF this with h|h
     ·exact .inr ⟨a,h,e⟩
     ·exact .inl h.symm
    ·rintro(rfl|⟨a,c,e⟩)
     ·exact⟨h4.1,h4.2,ha⟩
     ·exact⟨a,by omega,e⟩
   ·rename_i ha;rw[hm];constructor
    ·rintro⟨a,c,e⟩;have:=h2 x a c;rcases gF this with h|h
     ·exact⟨a,h,e⟩
     ·rw[←h] at e; exact absurd e ha
    ·rintro⟨a,c,e⟩;exact⟨a,by omega,e⟩
  ·rename_i hge;constructor
   ·rintro⟨a,c,e⟩;have:=h2 x a c;have:=hD x a;omega
   ·intro h; cases h
def aol {b:â} {g:ñ} {D:List Int} (v:Int):(ajh b g D v).length≤D.length :=
 dG (dJ _ _) (Fh D)
set_option maxHeartbeats 1000000 in
def anR {b:â} (hs:Ž b) {i:Nat} {g:ñ} (hg:b.2.1[i]?=some g) {D:List Int} (hl:D.length≤1000000) (hD:∀d∈D,d≤20000) {out:List (Int×Int)} (ho:out.length+D.length≤1000000000) (K:List (Int×Int)→Option (List (Int×Int))) :
 Î (fun(v24:Int×List (Int×Int)) kk27=>lN (i:Int) b.1.1 b.1.2 b.2.1 b.2.2.1 b.2.2.2.1 b.2.2.2.2.1 b.2.2.2.2.2 D v24.1 v24.2 (fun u25 u26=>kk27 (u25,u26)) K) ((-1:Int),out)=K (out++(ajh b g D (-1)).map fun d=>((g.1,d):Int×Int)):=by
 refine Ĕ (fun x:Int×List (Int×Int)=>x.2++(ajh b g D x.1).map (fun d=>((g.1,d):Int×Int))=out++(ajh b g D (-1)).map fun d=>((g.1,d):Int×Int)) (fun x=>(20001-x.1).toNat) ?_ rfl;rintro⟨v,o⟩ hI;simp only at hI
 by_cases hv:v<20001
 ·obtain⟨h1,h2,h3⟩:=Xx v D
  have hlt:v<nx v D:=by
   rcases h3 with h3|h3
   ·omega
   ·exact h3.2
  refine .inr ⟨(nx v D,if nx v D<20001∧N9 b g (nx v D)=true then o++[(g.1,nx v D)] else o),?_,by simp only; omega,fun kn=>?_⟩
  ·rw[←hI];simp only;rw[S9 hD v]
   by_cases ha:nx v D<20001
   ·rw[if_pos ha]
    cases hq:N9 b g (nx v D) with
    |true=>rw[if_pos ⟨ha,rfl⟩,if_pos rfl]; simp
    |false=>rw[if_neg (by simp),if_neg (by simp)]
   ·rw[if_neg (by omega),if_neg ha]
    have:ajh b g D (nx v D)=[]:=by
     have e:=S9 (b:=b) (g:=g) hD (nx v D);rw[e,if_neg];obtain⟨g1,g2,g3⟩:=Xx (nx v D) D;rcases g3 with g3|g3
     ·omega
     ·have:=hD _ g3.1; omega
    rw[this]
  ·unfold lN;rw[Ø (by simpa[ilt] using hv)];refine Eq.trans (apl hl v _) ?_;dsimp only
   by_cases ha:nx v D<20001
   ·rw[Ø (by simpa[ilt] using ha),Ì hg,aor (b:=((b.1.1,b.1.2),b.2.1,b.2.2.1,b.2.2.2.1,b.2.2.2.2.1,b.2.2.2.2.2)) ⟨hs.gauges,hs.uses,hs.loans,hs.compares,hs.looks,hs.piles⟩,À];have e:N9 ((b.1.1,b.1.2),b.2.1,b.2.2.1,b.2.2.2.1,b.2.2.2.2.1,b.2.2.2.2.2) g (nx v D)=N9 b g (nx v D):=rfl;rw[e]
    cases hq:N9 b g (nx v D) with
    |true =>
     have hol:o.length≤1000000000:=by
      have:=congrArg List.length hI;simp only[cW,dY] at this;have:=aol (b:=b) (g:=g) (D:=D) (-1);omega
     rw[Ø rfl,Ì hg,Ú (by simp only[dE]; omega),Am.iff_true,if_pos ⟨ha,rfl⟩]
    |false=>rw[Ô rfl,if_neg (by simp)]
   ·rw[Ô (by simpa[ilt] using ha),if_neg (by omega)]
 ·refine .inl fun kn=>?_;unfold lN;rw[Ô (by simpa[ilt] using hv)]
  have:ajh b g D v=[]:=by
   rw[S9 hD,if_neg];obtain⟨g1,g2,g3⟩:=Xx v D;rcases g3 with g3|g3
   ·omega
   ·have:=hD _ g3.1; omega
  rw[this] at hI;simp only[fu,dL] at hI;rw[hI]
def AK (b:â):List Int:=b.2.1.map (fun g=>g.2.1)++b.2.2.2.2.1.map (fun c=>c.2.1)++b.2.2.2.2.2.map fun n=>n.2
def af9 {b:â} (hs:Ž b):(AK b).length≤3000:=by
 have h1:=hs.gauges; have h2:=hs.compares; have h3:=hs.looks;simp only[AK,cW,dY];omega
def Pre.days {b:â} (h:Pre b):∀d∈AK b,0≤d∧d≤20000:=by
 intro d hd;simp only[AK,cX,dS] at hd;rcases hd with(⟨g,hg,rfl⟩|⟨c,hc,rfl⟩)|⟨n,hn,rfl⟩
 ·have:=((vd g).1 (h.gauge g hg)).2.2.2.2.1;omega
 ·have:=(h.cmp c hc).1;simp only[Jd,inP,cR,decide_eq_true_eq] at this;exact this
 ·have:=h.look n hn;simp only[Jd,inP,cR,decide_eq_true_eq] at this;exact this
def amc {b:â} (h:Pre b) {g:ñ} (hg:g∈b.2.1):ajh b g (AK b) (-1)=à b g:=by
 refine Z2 ((DK _).sublist List.filter_sublist) (rh b g) fun x=>?_;unfold ajh;rw[List.mem_filter,rt,Bool.and_eq_true,amb h hg,decide_eq_true_eq];constructor
 ·exact fun hx=>hx.2.2
 ·intro hx
  have hm:x∈AK b:=by
   simp only[AK,cX,dS];rcases je.1 hx with e|⟨c,hc,_,e⟩|⟨n,hn,_,e⟩
   ·exact .inl (.inl ⟨g,hg,e.symm⟩)
   ·exact .inl (.inr ⟨c,hc,e⟩)
   ·exact .inr ⟨n,hn,e⟩
  have:=h.days x hm;exact⟨hm,by omega,hx⟩
def XD {α:Type} (f:α→Int) (l:List α) (s:List Int) (i:Nat) {a:α} (ha:l[i]?=some a):s++(l.take (i+1)).map f=(s++(l.take i).map f)++[f a]:=by
 rw[take_succ ha,gU,dl]; rfl
def vA {b:â} (h:Pre b):jV b=some (Í b):=by
 have h1:=h.size.gauges; have h2:=h.size.compares; have h3:=h.size.looks;have hl:=af9 h.size;unfold jV JN;refine ô b.2.1 (fun i=>(b.2.1.take i).map (fun g=>g.2.1)) _ rfl (fun i a hi ha kn=>?_) (fun kn=>?_)
 ·try dsimp only
  unfold pp;have:=XD (fun g:ñ=>g.2.1) b.2.1 [] i ha;simp only[List.nil_append] at this;rw[Ö hi,Ì ha,Ú (by simp only[List.length_map,List.length_take,List.length_singleton]; omega),Am.iff_true,Ï hi (by omega),this]
 ·try dsimp only
  unfold pp;rw[ã,List.take_length];dsimp only;refine ô b.2.2.2.2.1 (fun i=>b.2.1.map (fun g=>g.2.1)++(b.2.2.2.2.1.take i).map (fun c=>c.2.1)) _ (by simp) (fun i a hi ha kn=>?_) (fun kn=>?_)
  ·try dsimp only
   unfold po;rw[Ö hi,Ì ha,Ú (by simp only[List.length_append,List.length_map,List.length_take,List.length_singleton]; omega),Am.iff_true,Ï hi (by omega),XD (fun c:Cmp=>c.2.1) b.2.2.2.2.1 _ i ha]
  ·try dsimp only
   unfold po;rw[ã,List.take_length];dsimp only;refine ô b.2.2.2.2.2 (fun i=>b.2.1.map (fun g=>g.2.1)++b.2.2.2.2.1.map (fun c=>c.2.1)++(b.2.2.2.2.2.take i).map (fun n=>n.2)) _ (by simp) (fun i a hi ha kn=>?_) (fun kn=>?_)
   ·try dsimp only
    unfold pn;rw[Ö hi,Ì ha,Ú (by simp only[List.length_append,List.length_map,List.length_take,List.length_singleton]; omega),Am.iff_true,Ï hi (by omega),XD (fun n:Int×Int=>n.2) b.2.2.2.2.2 _ i ha]
   ·try dsimp only
    unfold pn;rw[ã,List.take_length];dsimp only;rw[show b.2.1.map (fun g=>g.2.1)++b.2.2.2.2.1.map (fun c=>c.2.1)++b.2.2.2.2.2.map (fun n=>n.2)=AK b from rfl];refine ô b.2.1 (fun i=>(b.2.1.take i).flatMap fun g=>(à b g).map fun d=>((g.1,d):Int×Int)) _ rfl (fun i g hi hg kn=>?_) (fun kn=>?_)
    ·try dsimp only
     unfold pm;rw[Ö hi]
     have hlen:((b.2.1.take i).flatMap fun g=>(à b g).map fun d=>((g.1,d):Int×Int)).length≤2001000:=by
      have:=wV (fun g:ñ=>(à b g).map fun d=>((g.1,d):Int×Int)) 2001 (fun g=>by rw[dY]; exact IV h.size g) (b.2.1.take i);rw[dj] at this;have:min i b.2.1.length*2001≤1000*2001:=dH _ (by omega);omega
     refine eV (anR h.size hg (by omega) (fun d hd=>(h.days d hd).2) (by omega) _) ?_;rw[Ï hi (by omega),amc h (cZ hg),take_succ hg,eX];simp
    ·try dsimp only
     unfold pm;rw[ã,List.take_length];rfl
def WU {n d:Int} (hd:0<d) (hn:n.natAbs≤2147483647) (hd2:d≤2147483647):qU n d=some (oG n d,0):=by
 obtain⟨g,h0,hg,h1,h2⟩:=AY (n:=n) hd;have hr:=(ks _).1 (Xd hd hn hd2)
 have z:Ŏ d 0=false:=by simp[Ŏ]; omega
 have zg:Ŏ (g:Int) 0=false:=by simp[Ŏ]; omega
 unfold qU Eh
 by_cases hn0:n=0
 ·subst hn0
  have e:oG 0 d=(0,1):=by
   unfold oG
   have:(Nat.gcd (0:Int).natAbs d.natAbs:Int)=d:=by simp; omega
   rw[this,Int.ediv_self (by omega)];simp
  rw[Ô (by rfl),Ô z,Õ (by simp) (by simp),Ô z,Int.tdiv_self (by omega),Õ (by omega) (by omega),Int.zero_tdiv,e];rfl
 ·rw[Ø (by simpa[ine] using hn0),Ô z];have a0:(Int.tmod n d).natAbs=n.natAbs % d.natAbs:=gW n d;have hlt:=gJ n.natAbs (show 0<d.natAbs by omega);rw[amt ⟨by omega,by omega⟩,À]
  have ed:d=((d.natAbs:Nat):Int):=by omega
  have eg:Br ((Int.tmod n d).natAbs:Int) d=some (g:Int):=by
   have:=ams (Int.tmod n d).natAbs d.natAbs;rw[←ed] at this;rw[this,a0,hg];congr 2;rw[gX n.natAbs,Nat.gcd_rec d.natAbs n.natAbs]
  rw[eg,À,Ô zg]
  have q1:Int.tdiv n (g:Int)=(oG n d).1:=by
   conv=>lhs; rw[h1]
   exact gA _ (by omega)
  have q2:Int.tdiv d (g:Int)=(oG n d).2:=by
   conv=>lhs; rw[h2]
   exact gA _ (by omega)
  rw[q1,q2,Õ (by omega) (by omega),Ô zg,Õ (by omega) (by omega),Ô (by simp[igt]; omega),Ô (by simp[ilt]; omega),Ô (by simp[igt]; omega)]
def apZ {x y:Int×Int} (hx:rn x 1000 100) (hy:rn y 1000 100):OE x y=some (subP x y,0):=by
 obtain⟨b1,b2,b3⟩:=Ji hx hy;have h1:=nl hx.num (show -100≤y.2∧y.2≤100 from⟨by have:=hy.pos; omega,hy.den⟩);have h2:=nl hy.num (show -100≤x.2∧x.2≤100 from⟨by have:=hx.pos; omega,hx.den⟩);have h3:=hy.num;unfold OE Yi ZH Yk ZI Yq;rw[Õ (by omega) (by omega),À];dsimp only
 have e:(0-y.1)*x.2 = -(y.1*x.2):=by rw[Int.zero_sub,Int.neg_mul]
 rw[Õ (by omega) (by omega),e,Õ (by omega) (by omega),Õ (by omega) (by omega),Õ (by omega) (by omega)]
 have e2:x.1*y.2 + -(y.1*x.2)=x.1*y.2-y.1*x.2:=by omega
 rw[e2,WU b2 (by omega) (by omega),À,À];rfl
def amq {k:Int×Int} (hk:rn k 200000 10000) {n:Int} (hn : -10000≤n∧n≤10000):wX (n,1) k=some (FL k n,0):=by
 have b:=JB hk hn;have p:=hk.pos;have q:=hk.den;unfold wX Yl;have e:n*k.1=k.1*n:=Int.mul_comm _ _;dsimp only;rw[e,Int.one_mul,Õ (by omega) (by omega),Õ (by omega) (by omega),WU (by omega) (by omega) (by omega),À];rfl
def amo {k:Int×Int} (hk:rn k 200000 10000) {heat:Int×Int} (hh:j7 heat (-10000) 10000=true):Bq ((heat.1,1),(heat.2,1)) k=some (Xu k heat,0):=by
 simp only[j7,Bool.and_eq_true,decide_eq_true_eq] at hh;have hp:=hk.pos;rw[aii (by omega) hh.2.1];unfold Bq JX IC Qz;dsimp only;rw[amq hk ⟨by omega,by omega⟩,amq hk ⟨by omega,by omega⟩]
 by_cases hn:k.1<0
 ·rw[Ø (by simpa[ilt] using hn),if_pos hn];rfl
 ·rw[Ô (by simpa[ilt] using hn),if_neg hn];rfl
def Tf {r:Int×Int} (h:Ly r=true):vl r=some (r.1 / r.2):=by
 have:=(ks r).1 h;have e:=ZE (n:=r.1) (d:=r.2) (by omega) (by omega);unfold vn HB at e;unfold vl JZ Sr Qx;rw[e];rfl
def aaa {r:Int×Int} (h:Ly r=true):Ar r=some (EV r):=by
 have hr:=(ks r).1 h;unfold Ar QB afG aeV
 have z:Ŏ r.2 0=false:=by simp[Ŏ]; omega
 have t:=Int.mul_tdiv_add_tmod r.1 r.2
 have b1 : -4000000000≤Int.tdiv r.1 r.2∧Int.tdiv r.1 r.2≤4000000000:=by
  have:=Int.natAbs_tdiv_le_natAbs r.1 r.2;omega
 have h5 : -r.2<Int.tmod r.1 r.2∧Int.tmod r.1 r.2<r.2:=by
  have h6:=gW r.1 r.2;have h7:=gJ r.1.natAbs (show 0<r.2.natAbs by omega);omega
 rw[Ô z,Õ (by omega) (by omega),Ô z,Ě];unfold EV
 by_cases hp:0<Int.tmod r.1 r.2
 ·rw[if_pos (by simpa[igt] using hp),Õ (by omega) (by omega),À];congr 1
  have : -r.1 / r.2 = -(Int.tdiv r.1 r.2)-1:=by
   refine(gj (by omega)).2 ⟨?_,?_⟩
   ·rw[Int.sub_mul,Int.neg_mul,fT (Int.tdiv r.1 r.2)]; omega
   ·rw[Int.sub_mul,Int.neg_mul,fT (Int.tdiv r.1 r.2)]; omega
  omega
 ·rw[if_neg (by simpa[igt] using hp),À];congr 1
  have : -r.1 / r.2 = -(Int.tdiv r.1 r.2):=by
   refine(gj (by omega)).2 ⟨?_,?_⟩
   ·rw[Int.neg_mul,fT (Int.tdiv r.1 r.2)]; omega
   ·rw[Int.neg_mul,fT (Int.tdiv r.1 r.2)]; omega
  omega
structure ajq (b:â) (c:Cmp):Prop where
 ok:agf b c
 ids:b.2.1.Pairwise fun a b=>a.1<b.1
 pile:∀x∈c.2.2.1++c.2.2.2.1,∃g,Ź b x=some g
def Ē.cmpIn {b:â} (h:Ē b) {c:Cmp} (hc:c∈b.2.2.2.2.1):ajq b c:=⟨h.cmp hc,h.ids,fun x hx=>by obtain⟨⟨g,hg,_⟩,_⟩:=h.pile hc hx; exact⟨g,hg⟩⟩
def agf.ne {b:â} {c:Cmp} (h:agf b c):∀x∈c.2.2.1++c.2.2.2.1,x≠0:=by
 intro x hx;have hn:=(Ŵ c).1 h.nums;have h1:=((Fs _).1 hn.2.2.2.2.2.1).1;have h2:=((Fs _).1 hn.2.2.2.2.2.2).1;rcases cX.1 hx with hx|hx
 ·have:=h1 x hx; omega
 ·have:=h2 x hx; omega
def adY {b:â} (hs:Ž b) (hi:b.2.1.Pairwise fun a b=>a.1<b.1) {p q:List Int} (hx:∀x∈p,x≠0∧∃g,Ź b x=some g):vf b (FJ p q)=some (Fo (iO b) (é p q)):=by
 have h1:=hs.gauges;unfold vf JI
 cases hl:é p q with
 |nil =>
  have:FJ p q=0:=by unfold FJ; rw[hl]; rfl
  rw[this];rfl
 |cons x t =>
  have e:FJ p q=x:=by unfold FJ; rw[hl]; rfl
  have hm:x∈p:=(kh.1 (show x∈é p q by rw[hl]; simp)).1;obtain⟨h0,g,hg⟩:=hx x hm;rw[e,Ô (by simpa[ieq] using h0),OM (by omega),À];rcases Bl (b:=b) (id:=x) with⟨j,g',h2,h3,h4⟩|⟨h2,h3⟩
  ·rw[h2]
   try dsimp only
   rw[Ì h3];unfold Fo;dsimp only;rw[A4 hi,h4]
  ·rw[h3] at hg; cases hg
def Ln {b:â} (hs:Ž b) {c:Cmp} (h:ajq b c):m7 b c=some (Ģ b c):=by
 have hn:=(Ŵ c).1 h.ok.nums;have ha:=ĝ hn.2.2.2.2.2.1;have hb:=ĝ hn.2.2.2.2.2.2;have hA:∀x∈c.2.2.1,x≠0∧∃g,Ź b x=some g:=fun x hx=>⟨h.ok.ne x (by simp[hx]),h.pile x (by simp[hx])⟩;have hB:∀x∈c.2.2.2.1,x≠0∧∃g,Ź b x=some g:=fun x hx=>⟨h.ok.ne x (by simp[hx]),h.pile x (by simp[hx])⟩;unfold m7 Ee;rw[tK (by omega) (by omega),À,adY hs h.ids hA,À,tK (by omega) (by omega),À,adY hs h.ids hB,À,apZ h.ok.r1 h.ok.r2,À]
 try dsimp only
 rw[amo (heat:=c.2.2.2.2.2.2) (OU h.ok.r1 h.ok.r2) hn.2.2.2.2.1,À];rfl
def Tg {b:â} {c:Cmp} (hA:c.2.2.1.length≤1000) (hB:c.2.2.2.1.length≤1000) (h1:0≤b.1.1) (h2:b.1.1≤1000000) (h3:0≤b.1.2) (h4:b.1.2≤1000000):pY b c=some (iD b c):=by
 unfold pY JQ iD
 have e:∀n:Nat,Oy 0 ((n:Int)-1)=((n-1:Nat):Int):=by
  intro n;unfold Oy
  split<;>omega
 have bd:∀(n:Nat) (x:Int),n≤1000→0≤x→x≤1000000→0≤((n-1:Nat):Int)*x∧((n-1:Nat):Int)*x≤1000000000:=by
  intro n x hn h0 hx;refine⟨fE (by omega) h0,?_⟩;have:=fj (show((n-1:Nat):Int)≤1000 by omega) hx h0 (by omega);omega
 have b1:=bd _ _ hA h1 h2;have b2:=bd _ _ hA h3 h4;have b3:=bd _ _ hB h1 h2;have b4:=bd _ _ hB h3 h4;simp only[ä];rw[Õ (by omega) (by omega),Õ (by omega) (by omega)];simp only[e];rw[Õ (by omega) (by omega),Õ (by omega) (by omega),Õ (by omega) (by omega),Õ (by omega) (by omega),Õ (by omega) (by omega),Õ (by omega) (by omega)]
def ahT {b:â} (hs:Ž b) (hf:0≤b.1.1∧b.1.1≤b.1.2∧b.1.2≤1000000) {c:Cmp} (h:ajq b c):jG b c=some (Œ b c):=by
 have hn:=(Ŵ c).1 h.ok.nums;have ha:=ĝ hn.2.2.2.2.2.1;have hb:=ĝ hn.2.2.2.2.2.2;obtain⟨q1,q2,b1,b2,b3⟩:=nA hf h.ok;have c1:=vw q1;have c2:=qP q2;have fb:=qR (b:=b) (c:=c) (by omega) (by omega) (by omega) (by omega) (by omega) (by omega);have hd:=hn.2.2.1;unfold jG F9 Œ;rw[Ln hs h,À,Tg (by omega) (by omega) (by omega) (by omega) (by omega) (by omega),À,Tf q2.rat,aaa q1.rat];simp only[À];rw[Õ (by omega) (by omega),Õ (by omega) (by omega),Õ (by omega) (by omega),Õ (by omega) (by omega),Õ (by omega) (by omega),Õ (by omega) (by omega)]
section
variable {b:â}
def aov (h:Ē b) {id:Int} {g:ñ} (hg:Ź b id=some g) {f t:Int} (hf:0≤f∧f≤100000) (ht:t≤100000):vh b id f t=some (jc b g f t):=by
 have hG:=h.nG;have hU:=h.nU;have hL:=h.nL;obtain⟨hgm,hid⟩:=oq hg;unfold vh P8;rw[OM (by omega),À];rcases Bl (b:=b) (id:=id) with⟨j,g',h2,h3,h4⟩|⟨h2,h3⟩
 ·rw[h2]
  have:g'=g:=by rw[hg] at h4; exact(Option.some.inj h4).symm
  subst this
  try dsimp only
  rw[Ì h3];refine Ĕ (fun x:Int×Int=>f≤x.2∧(x.2≤t∨x.2=f)∧x.1=jc b g' f x.2) (fun x=>(t-x.2).toNat) ?_ ⟨dw _,.inr rfl,(Ag g' (dw _)).symm⟩;rintro⟨s,d⟩ ⟨hfd,hdt,hs⟩;simp only at hfd hdt hs;subst hs
  by_cases hd:d<t
  ·refine .inr ⟨(jc b g' f (d+1),d+1),⟨by simp only; omega,.inl (by simp only; omega),rfl⟩,by simp only; omega,fun kn=>?_⟩;have e:=RP h g' hfd;have lb:=jB h hgm (f:=f) (t:=d) hf.1;have lb2:=jB h hgm (f:=f) (t:=d+1) hf.1;unfold rP;rw[Ø (by simpa[ilt] using hd),ahV (b:=((b.1.1,b.1.2),b.2.1,b.2.2.1,b.2.2.2.1,b.2.2.2.2.1,b.2.2.2.2.2)) (by simp only; omega),À];have e1:me ((b.1.1,b.1.2),b.2.1,b.2.2.1,b.2.2.2.1,b.2.2.2.2.1,b.2.2.2.2.2) id d=me b id d:=rfl;rw[e1];unfold afN at e;rw[hid] at e
   cases ha:me b id d with
   |some l =>
    rw[ha] at e;simp only at e;rw[Ø rfl]
    try dsimp only
    rw[←e,Õ (by omega) (by omega),Õ (by omega) (by omega)]
   |none =>
    rw[ha] at e;simp only at e;rw[Ô rfl,aot (b:=((b.1.1,b.1.2),b.2.1,b.2.2.1,b.2.2.2.1,b.2.2.2.2.1,b.2.2.2.2.2)) (by simp only; omega),À];have e2:MZ ((b.1.1,b.1.2),b.2.1,b.2.2.1,b.2.2.2.1,b.2.2.2.2.1,b.2.2.2.2.2) id d=MZ b id d:=rfl;rw[e2]
    cases hu:MZ b id d with
    |true =>
     rw[hu,if_pos rfl] at e;rw[Ø rfl]
     try dsimp only
     rw[←e,Õ (by omega) (by omega),Õ (by omega) (by omega)]
    |false =>
     rw[hu,if_neg (by simp)] at e;rw[Ô rfl,Õ (by omega) (by omega),e,gp]
  ·refine .inl fun kn=>?_;unfold rP;rw[Ô (by simpa[ilt] using hd)]
   have:jc b g' f d=jc b g' f t:=by
    rcases gD t f with hlt|hge
    ·have:d=f:=by omega
     rw[this,Ag g' (dw _),Ag g' (by omega)]
    ·have:d=t:=by omega
     rw[this]
   rw[this]
 ·rw[h3] at hg; cases hg
end
end Go.Proofs.ZzM
end
