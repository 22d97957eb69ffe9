/- lemmas -/
import Derived.Test.YtmadligicacpkaaGreatPlA
import Derived.Test.YtmadligicacpkaaGreatMdTA
set_option linter.all false
set_option linter.unusedSectionVars false
set_option linter.unusedVariables false
set_option linter.unusedSimpArgs false
noncomputable section
namespace Go.Proofs.ZzM
open Go Go.Am
section
variable {L:List Lk} {N:Nat}
theorem Wl.app {u v:Int} {vs:List Int} {d:Int} (h1:Wl L (fun x=>x=u) vs v d) {ws:List Int} {w e:Int} (h2:Wl L (fun x=>x=v) ws w e):∃xs,Wl L (fun x=>x=u) xs w (d+e):=by
 induction h2 with
 |nil h=>subst h; exact⟨vs,by rw[Int.add_zero]; exact h1⟩
 |step hw hx ih =>
  obtain⟨xs,hi⟩:=ih;have:=Wl.step hi hx;rw[Int.add_assoc] at this;exact⟨_,this⟩
def dst (L:List Lk) (N:Nat) (s t:Int):Int:=gv (agN L N s) t
theorem aXU (h:ņ L N) (ht:atC L N) (ho:Ĩ L N=true) {s t:Int} (hs:0≤s∧s<N) (hv:0≤t∧t<N):dst L N s t≤9007199254740992:=by
 have h2:=h.n60;obtain⟨p,hp⟩:=(Ř h.links (by omega)).1 ho;obtain⟨vs,d,hw,hd⟩:=ht.from' s hs.1 hs.2;obtain⟨ws,e,hx,he⟩:=ht.to t hv.1 hv.2;obtain⟨xs,hy⟩:=Wl.app hw hx;have:=(aek h.links (by omega) hp hs).low t xs _ (aOg.2 hy);unfold dst;omega
theorem aT3 (h:ņ L N) (ht:atC L N) (ho:Ĩ L N=true) {s t:Int} (hs:0≤s∧s<N) (hv:0≤t∧t<N):dst L N s t≠Ľ:=by
 have:=aXU h ht ho hs hv;unfold Ľ;omega
theorem aXT (h:ņ L N) (ht:atC L N) (ho:Ĩ L N=true) {s:Int} (hs:0≤s∧s<N):Pot L (dst L N s):=by
 have h2:=h.n60;obtain⟨p,hp⟩:=(Ř h.links (by omega)).1 ho;intro u v m hl;have hr:=h.inr _ hl;exact(aek h.links (by omega) hp hs).pot h.inr hl (aT3 h ht ho hs hr.1)
theorem aT2 (h:ņ L N) (ho:Ĩ L N=true) {s:Int} (hs:0≤s∧s<N):dst L N s s=0:=aSL h ho hs.1 hs.2
theorem aME (h:ņ L N) (ht:atC L N) (ho:Ĩ L N=true) {s t:Int} (hs:0≤s∧s<N) (hv:0≤t∧t<N) {p:Int→Int} (hp:Pot L p):p t-p s≤dst L N s t:=by
 have h2:=h.n60;obtain⟨vs,hw⟩:=(aek h.links (by omega) hp hs).att t hv.1 hv.2 (aT3 h ht ho hs hv);obtain⟨u,hu,hx⟩:=(aOg.1 hw).pot hp;subst hu;exact hx
theorem a17 (h:ņ L N) (ht:atC L N) (ho:Ĩ L N=true) {x y:Int} (hx:0≤x∧x<N) (hy:0≤y∧y<N) {t:Int} (h1 : -(dst L N x y)≤t) (h2:t≤dst L N y x):∃p,Pot L p∧p x-p y=t:=by
 refine⟨fun v=>min (dst L N y v) (dst L N x v+t),fun u v m hl=>?_,?_⟩
 ·have a1:=aXT h ht ho hy u v m hl;have a2:=aXT h ht ho hx u v m hl;show min _ _≤min _ _+m;omega
 ·have e1:=aT2 h ho hx;have e2:=aT2 h ho hy;show min (dst L N y x) (dst L N x x+t)-min (dst L N y y) (dst L N x y+t)=t;omega
theorem aQe (h:ņ L N) (ht:atC L N) (ho:Ĩ L N=true) {x y:Int} (hx:0≤x∧x<N) (hy:0≤y∧y<N) : -(dst L N x y)≤dst L N y x:=by
 have h2:=h.n60;obtain⟨p,hp⟩:=(Ř h.links (by omega)).1 ho;have a1:=aME h ht ho hx hy hp;have a2:=aME h ht ho hy hx hp;omega
theorem aQf (h:ņ L N) (ht:atC L N) (ho:Ĩ L N=true) {s t:Int} (hs:0≤s∧s<N) (hv:0≤t∧t<N) : -9007199254740992≤dst L N s t∧dst L N s t≤9007199254740992:=by
 have a1:=aXU h ht ho hs hv;have a2:=aXU h ht ho hv hs;have a3:=aQe h ht ho hv hs;omega
theorem aqL (h:ņ L N) (ht:atC L N) {s t:Int} (hs:0≤s∧s<N) (hv:0≤t∧t<N):adp L N s t=if Ĩ L N then(dst L N s t,0) else(0,9):=by
 unfold adp
 by_cases ho:Ĩ L N=true
 ·have hne:=aT3 h ht ho hs hv;unfold dst at hne ⊢;rw[if_neg (by simp[ho]),if_neg hne,if_pos ho]
 ·rw[if_pos (by simpa using ho),if_neg ho]
end
section
variable {b:â} {c:Cmp}
theorem a1W (h':ę (ð b c)):GL (ð b c) (þ (ð b c)):=by
 intro i g hg l hl;rw[aSi];exact List.mem_append.2 (.inl (List.mem_flatMap.2 ⟨g,List.mem_of_getElem? hg,hl⟩))
theorem aeM (h':ę (ð b c)):atC (þ (ð b c)) ((Î (ð b c)).length+1):=h'.tiedL (a1W h')
theorem aet (h':ę (ð b c)):ņ (þ (ð b c)) ((Î (ð b c)).length+1) :=
 h'.sys.sub (fun l hl=>List.mem_of_mem_take hl) (by unfold þ; rw[List.length_take]; omega)
theorem aiU (h:ę b) (h':ę (ð b c)):Ĩ (þ (ð b c)) ((Î (ð b c)).length+1)=Ĩ (ä b) ((Î b).length+1):=by
 have n1:=h.sys.n60;have n2:=(aet h').n60;rw[Bool.eq_iff_iff,Ř (aet h').links (by omega),Ř h.sys.links (by omega)];exact(aWK h h').symm
theorem ap8:c∈(ð b c).2.2.2.2.1:=by simp[ð]
theorem asb (h':ę (ð b c)):0≤cx (ð b c) c∧cx (ð b c) c<((Î (ð b c)).length+1:Nat):=(aMH h' ap8).rng
theorem asa (h':ę (ð b c)):0≤cy (ð b c) c∧cy (ð b c) c<((Î (ð b c)).length+1:Nat):=(aFD h' ap8).rng
def dLo (b:â) (c:Cmp):Int:=-(dst (þ (ð b c)) ((Î (ð b c)).length+1) (cx (ð b c) c) (cy (ð b c) c))
def dHi (b:â) (c:Cmp):Int:=dst (þ (ð b c)) ((Î (ð b c)).length+1) (cy (ð b c) c) (cx (ð b c) c)
theorem aF8 (h:ę b) (h':ę (ð b (Ê c))):Ļ b c=if Ĩ (ä b) ((Î b).length+1) then aCj b (Ê c) (dLo b (Ê c),dHi b (Ê c)) else((0,0),9):=by
 have e:apY b (Ê c)=(ð b (Ê c),0):=by
  unfold apY;rw[if_neg (by simp[(ô b).2 h]),if_neg (by simp[(ô _).2 h'])]
 unfold Ļ;rw[e,aqL (aet h') (aeM h') (asa h') (asb h'),aqL (aet h') (aeM h') (asb h') (asa h'),aiU h h']
 by_cases ho:Ĩ (ä b) ((Î b).length+1)=true
 ·rw[if_pos ho,if_pos ho,if_pos ho];rfl
 ·rw[if_neg ho,if_neg ho,if_neg ho];rfl
theorem aif (hp:(Ļ b c).2=0):ę b∧ę (ð b (Ê c)):=by
 have hw:(apY b (Ê c)).2=0:=by
  unfold Ļ at hp
  by_cases hw:(apY b (Ê c)).2=0
  ·exact hw
  ·rw[if_pos hw] at hp; exact hp
 unfold apY at hw
 by_cases hb:é b=0
 ·rw[if_neg (by simp[hb])] at hw
  by_cases hm:é (ð b (Ê c))=0
  ·exact⟨(ô b).1 hb,(ô _).1 hm⟩
  ·rw[if_pos hm] at hw; exact absurd hw hm
 ·rw[if_pos hb] at hw; exact absurd hw hb
theorem aQ3 {s:Int×Int} (h:(aCj b c s).2=0):aSa b c≤ats b c∧aCj b c s=((s.1+aSa b c,s.2+ats b c),0):=by
 unfold aCj at h ⊢
 split at h
 ·simp at h
 ·rename_i hl;rw[if_neg hl];exact⟨by omega,rfl⟩
end
end Go.Proofs.ZzM
end
noncomputable section
namespace Go.Proofs.ZzM
open Go Go.Am
structure a0T (B:â):Prop where
 good:ę B
 op:Ĩ (ä B) ((Î B).length+1)=true
 num:∀g∈B.2.1,I64 g.2.2.2.2.1.1
theorem afz {b:â} (hI:In b) {ns:List (Int×Int)} (e:(ú b ns).2=0):a0T (ú b ns).1∧(ú b ns).1=(ō b ns).1∧(ō b ns).2=0∧ę b:=by
 unfold ú at e ⊢
 by_cases hc:é b=0
 ·rw[if_neg (by simp[hc])] at e ⊢
  by_cases hr:(ō b ns).2=0
  ·rw[if_neg (by simp[hr])] at e ⊢
   cases ho:Ĩ (ä (ō b ns).1) ((Î (ō b ns).1).length+1) with
   |true =>
    rw[if_pos rfl];exact⟨⟨atQ ((ô b).1 hc) hr,ho,by rw[alT hr]; exact hI.num⟩,rfl,hr,(ô b).1 hc⟩
   |false=>rw[ho] at e; simp at e
  ·rw[if_pos hr] at e; exact absurd e hr
 ·rw[if_pos hc] at e; exact absurd e hc
theorem Ū (B:â) (n:Int×Int):0≤amT B n.1 n.2∧amT B n.1 n.2<((Î B).length+1:Nat):=by
 unfold amT
 cases h:adA (Î B) n.1 n.2 with
 |none=>dsimp only; omega
 |some j=>have:=(afh h).1; dsimp only; omega
theorem aF1 {B:â} (h:ę B) (hn:∀g∈B.2.1,I64 g.2.2.2.2.1.1) (s:Sys) (n:Int×Int):θ (B,s) n=some (amT B n.1 n.2):=by
 unfold θ asZ;rw[show Ũ (B,s).1 n=Ũ B n from rfl,aF9 (h.inn hn),À,atF h]
 split
 ·rename_i e; rw[e]
 ·rfl
theorem aQz {B:â} {L:List Lk} {N:Nat} (h:ņ L N) {to from':Int} (h1:0≤to∧to<N) (h2:0≤from'∧from'<N):Ċ (B,(N:Int),L) to from'=some (adp L N from' to).1:=by
 unfold Ċ akm;rw[show(B,(N:Int),L).2=((N:Int),L) from rfl,aB7 h h2 h1,À]
def aCa (B:â):Sys:=(((Î B).length:Int)+1,ä B)
def aQT (B:â) (s t:Int):Int:=dst (ä B) ((Î B).length+1) s t
def ivR (B:â) (n:Int×Int):Int×Int:=(-(aQT B (amT B n.1 n.2) 0),aQT B 0 (amT B n.1 n.2))
theorem asi (B:â):aCa B=((((Î B).length+1:Nat):Int),ä B):=by unfold aCa; push_cast; rfl
theorem Μ (B:â):0≤(0:Int)∧(0:Int)<((Î B).length+1:Nat):=by omega
section
variable {B:â} (h:a0T B)
include h
theorem apM {s t:Int} (hs:0≤s∧s<((Î B).length+1:Nat)) (ht:0≤t∧t<((Î B).length+1:Nat)) : -9007199254740992≤aQT B s t∧aQT B s t≤9007199254740992 :=
 aQf h.good.sys h.good.tied h.op hs ht
theorem aqI {to from':Int} (h1:0≤to∧to<((Î B).length+1:Nat)) (h2:0≤from'∧from'<((Î B).length+1:Nat)):Ċ (B,aCa B) to from'=some (aQT B from' to):=by
 rw[asi,aQz h.good.sys h1 h2,aqL h.good.sys h.good.tied h2 h1,if_pos h.op];rfl
theorem aI5 (n:Int×Int):η (B,aCa B) n=some (-(aQT B (amT B n.1 n.2) 0)):=by
 unfold η akl;have hb:=apM h (Ū B n) (Μ B);rw[aF1 h.good h.num,À,aqI h (Μ B) (Ū B n),À,Ø (by omega) (by omega)];congr 1;omega
theorem awq (n:Int×Int):ado (B,aCa B) n=some (aQT B 0 (amT B n.1 n.2)):=by
 unfold ado agz;rw[aF1 h.good h.num,À,aqI h (Ū B n) (Μ B),À]
theorem amS (n:Int×Int):Ű (B,aCa B) n=some (ivR B n):=by
 unfold Ű agy;rw[aI5 h,À,awq h,À];rfl
end
def adW (b:â) (n:Int×Int):(Int×Int)×Int:=if (ú b [n]).2≠0 then((0,0),(ú b [n]).2) else(ivR (ú b [n]).1 n,0)
theorem atD {b:â} (hI:In b) (n:Int×Int):afp b n=some (adW b n):=by
 unfold afp aoZ adW;refine(alW hI (ns:=[n]) (by simp) (fun e=>some (((0,0):Int×Int),e)) (fun e he=>by rw[ģ (by simp[ine,he])]) (fun z he=>by rw[ģ (by simp[ine,he])]) (fun _ _ _=>rfl)).trans ?_
 split
 ·rfl
 ·rename_i e;have hr:=(afz hI (by simpa using e)).1;dsimp only;rw[apB,show((((Î (ú b [n]).1).length:Int)+1,ä (ú b [n]).1):Sys)=aCa (ú b [n]).1 from rfl,amS hr,À]
theorem aVO {ρ:Type}:@akt ρ=@ē ρ:=rfl
theorem aZZ {ρ:Type}:@aoY ρ=@ē ρ:=rfl
def btR (B:â) (m n:Int×Int):Int×Int:=(-(aQT B (amT B m.1 m.2) (amT B n.1 n.2)),aQT B (amT B n.1 n.2) (amT B m.1 m.2))
def af9 (b:â) (m n:Int×Int):(Int×Int)×Int:=if (ú b [m,n]).2≠0 then((0,0),(ú b [m,n]).2) else(btR (ú b [m,n]).1 m n,0)
theorem aJE {b:â} (hI:In b) (m n:Int×Int):ai4 b m n=some (af9 b m n):=by
 unfold ai4 as8 af9;rw[aVO];refine(alW hI (ns:=[m,n]) (by simp) (fun e=>some (((0,0):Int×Int),e)) (fun e he=>by rw[ģ (by simp[ine,he])]) (fun z he=>by rw[ģ (by simp[ine,he])]) (fun _ _ _=>rfl)).trans ?_
 split
 ·rfl
 ·rename_i e;have hr:=(afz hI (by simpa using e)).1;dsimp only;generalize (ú b [m,n]).1=B at hr ⊢;have hb:=apM hr (Ū B m) (Ū B n)
  rw[apB,show((((Î B).length:Int)+1,ä B):Sys)=aCa B from rfl,aF1 hr.good hr.num,À,aF1 hr.good hr.num,À,aqI hr (Ū B n) (Ū B m),À,
   Ø (by omega) (by omega),aqI hr (Ū B m) (Ū B n),À]
  unfold btR;rw[Int.zero_sub]
def ajf (s l:Int×Int):Int:=if l.1≤s.1∧s.2≤l.2 then 1 else if s.2<l.1∨l.2<s.1 then 2 else 3
theorem aH7 (s l:Int×Int):ai1 s l=some (ajf s l):=by
 unfold ai1 asX ajf;simp only[Ĥ,ile,ilt,decide_eq_true_eq]
 by_cases h1:l.1≤s.1<;>by_cases h2:s.2≤l.2<;>by_cases h3:s.2<l.1<;>by_cases h4:l.2<s.1<;>simp[h1,h2,h3,h4]
def aY4 (b:â) (n l:Int×Int):Int×Int:=if (ú b [n]).2≠0 then(0,(ú b [n]).2) else if l.2<l.1 then(0,1) else(ajf (ivR (ú b [n]).1 n) l,0)
theorem a00 {b:â} (hI:In b) (n l:Int×Int):awE b n l=some (aY4 b n l):=by
 unfold awE aDZ aY4;rw[aZZ];refine(alW hI (ns:=[n]) (by simp) (fun e=>some ((0:Int),e)) (fun e he=>by rw[Ú (by simp[ine,he])]) (fun z he=>by rw[Ú (by simp[ine,he])]) (fun _ _ _=>rfl)).trans ?_
 split
 ·rfl
 ·rename_i e;have hr:=(afz hI (by simpa using e)).1;dsimp only
  by_cases hl:l.2<l.1
  ·rw[Ú (by simp[igt,hl]),if_pos hl]
  ·rw[Õ (by simp[igt]; omega),if_neg hl,apB,show((((Î (ú b [n]).1).length:Int)+1,ä (ú b [n]).1):Sys)=aCa (ú b [n]).1 from rfl,amS hr,À,aH7,À]
end Go.Proofs.ZzM
end
noncomputable section
namespace Go.Proofs.ZzM
open Go Go.Am
def aGb (x y:List Int):List Int×List Int×Int:=if !aga x then([],[],1) else if !aga y then([],[],1) else(ë x y,ë y x,0)
theorem aQO {x y:List Int} (hx:x.length≤100000) (hy:y.length≤100000):alM x y=some (aGb x y):=by
 unfold alM ayx aGb;rw[awk (by omega),À]
 cases aga x with
 |false=>rfl
 |true =>
  rw[awk (by omega),À]
  cases aga y with
  |false=>rfl
  |true =>
   rw[akA (by omega) (by omega),À,akA (by omega) (by omega),À];rfl
end Go.Proofs.ZzM
end
noncomputable section
namespace Go.Proofs.ZzM
open Go Go.Am
theorem aP6 (ls:List (List Int)) (i:Nat):(ls.take i).flatten.length≤ls.flatten.length:=by
 conv=>rhs; rw[←List.take_append_drop i ls,List.flatten_append,List.length_append]
 omega
theorem ait {ls:List (List Int)} (hl:ls.length≤1000000) (hf:ls.flatten.length≤1000000):ò ls=some ls.flatten:=by
 have hk:∀n:Nat,n≤4000000→∀(f:Int→Option (List Int)),ck (n:Int) f=f n:=fun n h f=>Ø (by omega) (by omega) f
 have second:Ì (fun(v9:(Val (.pair tI (.slice tI)))) kk12=>õ ls (Û ls) v9.1 v9.2 (fun u10 u11=>kk12 (u10,u11)) (fun z8=>some z8)) ((0:Int),([]:List Int))=some ls.flatten:=by
  refine ñ ls (fun i=>(ls.take i).flatten) (some ls.flatten) (f:=fun(v9:(Val (.pair tI (.slice tI)))) kk12=>õ ls (Û ls) v9.1 v9.2 (fun u10 u11=>kk12 (u10,u11)) (fun z8=>some z8)) rfl (fun i x hi hx kn=>?_) (fun kn=>?_)
  ·try dsimp only
   unfold õ;have h1:=aP6 ls (i+1);rw[take_succ hx,List.flatten_append,List.length_append] at h1;simp only[List.flatten_cons,List.flatten_nil,List.append_nil] at h1;rw[Ö hi,Ë hx,Ñ hi (by omega),take_succ hx,List.flatten_append];have:ì ((List.take i ls).flatten.length+x.length)=true:=Ù (by omega);rw[ģ this];simp
  ·try dsimp only
   unfold õ;rw[ã];simp
 unfold ò ad5;refine ł (fun x:Int×Int=>∃i:Nat,i≤ls.length∧x=(((ls.take i).flatten.length:Int),(i:Int))) (fun x=>ls.length-x.2.toNat) ?_ ⟨0,by omega,rfl⟩;rintro x ⟨i,hi,rfl⟩;rcases Nat.lt_or_ge i ls.length with h2|h2
 ·refine .inr ⟨(((ls.take (i+1)).flatten.length:Int),(i:Int)+1),⟨i+1,h2,by simp⟩,by simp; omega,fun kn=>?_⟩;obtain⟨x,hx⟩:∃x,ls[i]?=some x:=⟨_,List.getElem?_eq_getElem h2⟩;have h1:=aP6 ls (i+1);rw[take_succ hx,List.flatten_append,List.length_append] at h1;simp only[List.flatten_cons,List.flatten_nil,List.append_nil] at h1
  try dsimp only
  unfold ĸ;rw[Ö h2,Ë hx,ç]
  have e1:(((List.take i ls).flatten.length:Int)+(x.length:Int))=((List.take i ls).flatten.length+x.length:Nat):=by omega
  rw[e1,hk _ (by omega)]
  have:ilt ((((List.take i ls).flatten.length+x.length:Nat)):Int) 0=false:=by simp[ilt]; omega
  rw[Õ this,Ñ h2 (by omega),take_succ hx];simp
 ·refine .inl fun kn=>?_
  obtain rfl:i=ls.length:=by omega
  try dsimp only
  unfold ĸ;rw[ã,List.take_length];have e2:ilt ((ls.flatten.length:Nat):Int) 0=false:=decide_eq_false (by omega);dsimp only;rw[Õ e2,Int.sub_zero,hk _ (by omega)];rcases Nat.eq_zero_or_pos ls.flatten.length with h0|h0
  ·have:igt (ls.flatten.length:Int) 0=false:=decide_eq_false (by omega);rw[Õ this];exact second
  ·have:igt (ls.flatten.length:Int) 0=true:=decide_eq_true (by omega);rw[Ú this]
   have:((ilt (0:Int) (ls.flatten.length:Int))&&(ì (Int.toNat (ls.flatten.length:Int))))=true:=by
    rw[Int.toNat_natCast,Ù (by omega),Bool.and_true];exact decide_eq_true (by omega)
   rw[ģ this];have:ile 0 (Đ (List.replicate (Int.toNat (ls.flatten.length:Int)) (0:Int)))=true:=decide_eq_true (Int.natCast_nonneg _);rw[ģ this];exact second
def onP (day:Int) (ids:List Int):List (Int×Int):=ids.map fun id=>(id,day)
theorem aWl {day:Int} {ls:List (List Int)} (hl:ls.length≤1000000) (hf:ls.flatten.length≤1000000):awC day ls=some (onP day ls.flatten):=by
 unfold awC aDN;rw[ait hl hf,À];refine ñ ls.flatten (fun i=>onP day (ls.flatten.take i)) _ rfl (fun i x hi hx kn=>?_) (fun kn=>?_)
 ·try dsimp only
  unfold ajF;rw[Ö hi,Ë hx,Ñ hi (by omega),take_succ hx];have:ì (List.length (onP day (ls.flatten.take i))+List.length ([(x,day)]))=true:=Ù (by simp[onP]; omega);rw[ģ this];simp[onP]
 ·try dsimp only
  unfold ajF;rw[ã,List.take_length]
theorem aZr {l:List Int} (hl:l.length≤100000) (m:Int):aB0 l m=some (aga l&&decide ((l.length:Int)≤m)):=by
 unfold aB0 aK1;rw[aQO hl (by simp),À]
 have e0:aga []=true:=by decide
 unfold aGb;rw[e0,ç]
 cases aga l<;>rfl
theorem a1z (n:Int):awD n=some (aw6 n):=by
 unfold awD aDS aw6 inP;rw[Ĥ]
 by_cases h:0≤n
 ·rw[if_pos (by simpa[ige] using h)]; simp[h]
 ·rw[if_neg (by simpa[ige] using h)]; simp[h]
theorem aZ3 {ρ α:Type} (l:List α) (i:Int) (f:α→Option ρ):ï ((ile (0:Int) i)&&(ilt i (Đ l))) (Ň l (Int.toNat i) f)=ă l i f:=by
 unfold ă
 by_cases h0:0≤i
 ·by_cases h1:i<l.length
  ·have e:((ile (0:Int) i)&&(ilt i (Đ l)))=true:=by simp[ile,ilt,h0,h1]
   rw[ģ e];simp only[h0,decide_true];unfold Ň;rfl
  ·have e:((ile (0:Int) i)&&(ilt i (Đ l)))=false:=by simp[ile,ilt,h1]
   rw[e];simp only[h0,decide_true];rw[List.getElem?_eq_none (by omega)];rfl
 ·have e:((ile (0:Int) i)&&(ilt i (Đ l)))=false:=by simp[ile,ilt,h0]
  rw[e];simp only[h0,decide_false];rfl
theorem a1I {ρ:Type} (ns:List (Int×Int)) (n:Int):@amn ρ ns n=@ē ρ n ns:=by
 funext v0 v1 v2 v3 v4 v5 v6 v7 kn k0 k1;unfold amn ē;rw[aZ3]
def aTd (B:â) (ns:List (Int×Int)) (s:Int×Int):Int×Int:=ns.foldl (fun s n=>(s.1+(ivR B n).1,s.2+(ivR B n).2)) s
def pileR (B:â) (f:Int×Int) (ns:List (Int×Int)):Int×Int:=aTd B ns (((ns.length:Int)-1)*f.1,((ns.length:Int)-1)*f.2)
def a2s (b:â) (day:Int) (ids:List Int):(Int×Int)×Int :=
 if é b≠0 then((0,0),é b) else if ids.length=0∨aga ids=false∨aw6 day=false then((0,0),1) else
 if (ú b (onP day ids)).2≠0 then((0,0),(ú b (onP day ids)).2) else(pileR (ú b (onP day ids)).1 b.1 (onP day ids),0)
theorem aQZ (B:â) (x y:List (Int×Int)) (s:Int×Int):aTd B (x++y) s=aTd B y (aTd B x s):=by unfold aTd; rw[List.foldl_append]
theorem aWh {B:â} (h:a0T B):∀(ns:List (Int×Int)) (s:Int×Int) (m:Int),-m≤s.1∧s.1≤m→-m≤s.2∧s.2≤m →
 (-(m+ns.length*9007199254740992)≤(aTd B ns s).1∧(aTd B ns s).1≤m+ns.length*9007199254740992)∧(-(m+ns.length*9007199254740992)≤(aTd B ns s).2∧(aTd B ns s).2≤m+ns.length*9007199254740992)
 |[],s,m,h1,h2=>by unfold aTd; simp; omega
 |n::t,s,m,h1,h2=>by
  have b1:=apM h (Ū B n) (Μ B);have b2:=apM h (Μ B) (Ū B n);have:=aWh h t (s.1+(ivR B n).1,s.2+(ivR B n).2) (m+9007199254740992) (by unfold ivR; dsimp only; omega) (by unfold ivR; dsimp only; omega);show(-(m+((n::t).length:Nat)*9007199254740992)≤(aTd B t _).1∧_)∧_;unfold aTd at this ⊢;simp only[List.foldl_cons,List.length_cons];push_cast;omega
theorem a2r {b:â} (hI:In b) (day:Int) {ids:List Int} (hl:ids.length≤1000):aB1 b day ids=some (a2s b day ids):=by
 unfold aB1 aLr a2s;rw[adO hI.size hI.num,À,aZr (by omega),À,a1z,À,ç]
 by_cases hc:é b=0
 ·rw[Õ (by simp[ine,hc]),if_neg (show ¬(é b≠0) from fun h=>h hc)]
  by_cases h0:ids.length=0
  ·rw[Ú (by simp[ieq,h0]),if_pos (.inl h0)]
  ·rw[Õ (beq_eq_false_iff_ne.2 (by omega))]
   by_cases h1:aga ids=true
   ·have hp:=(atV ids).1 h1
    have e1:(aga ids&&decide ((ids.length:Int)≤6))=true:=by rw[h1]; simp; omega
    rw[e1,Õ (by rfl)]
    by_cases h2:aw6 day=true
    ·have hg:=(ô b).1 hc;rw[Õ (by rw[h2]; rfl),if_neg (by simp[h0,h1,h2]),aWl (by simp) (by simp; omega),À]
     have hlen:(onP day ids).length=ids.length:=by simp[onP]
     rw[show([ids]:List (List Int)).flatten=ids by simp,a1I,←adO hI.size hI.num];refine(alW hI (ns:=onP day ids) (by omega) (fun e=>some (((0,0):Int×Int),e)) (fun e he=>by rw[Ú (by simp[ine,he])]) (fun z he=>by rw[Ú (by simp[ine,he])]) (fun _ _ _=>rfl)).trans ?_
     split
     ·rfl
     ·rename_i e;have hr:=(afz hI (by simpa using e)).1;have hf:=hg.film;dsimp only;generalize (ú b (onP day ids)).1=B at hr ⊢
      have hm:∀x:Int,0≤x→x≤1000000→0≤((ids.length:Int)-1)*x∧((ids.length:Int)-1)*x≤10000000:=by
       intro x h0 h1;have:((ids.length:Int)-1)*x≤5*1000000:=Int.mul_le_mul (by omega) h1 h0 (by omega);exact⟨Int.mul_nonneg (by omega) h0,by omega⟩
      have m1:=hm b.1.1 (by omega) (by omega);have m2:=hm b.1.2 (by omega) (by omega);rw[Ø (by omega) (by omega),Ø (by omega) (by omega),Ø (by omega) (by omega),apB,show((((Î B).length:Int)+1,ä B):Sys)=aCa B from rfl];unfold pileR;rw[hlen];refine ñ (onP day ids) (fun i=>aTd B ((onP day ids).take i) (((ids.length:Int)-1)*b.1.1,((ids.length:Int)-1)*b.1.2)) _ rfl (fun i n hi hn kn=>?_) (fun kn=>?_)
      ·try dsimp only
       unfold amm;have b1:=apM hr (Ū B n) (Μ B);have b2:=apM hr (Μ B) (Ū B n);have bs:=aWh hr ((onP day ids).take i) (((ids.length:Int)-1)*b.1.1,((ids.length:Int)-1)*b.1.2) 10000000 (by dsimp only; omega) (by dsimp only; omega)
       have bl:(((onP day ids).take i).length:Int)≤6:=by rw[List.length_take]; omega
       rw[Ö hi,Ë hn,amS hr,À,take_succ hn,aQZ];generalize aTd B ((onP day ids).take i) (((ids.length:Int)-1)*b.1.1,((ids.length:Int)-1)*b.1.2)=s at bs ⊢;unfold ivR;dsimp only;rw[Ø (by omega) (by omega),Ø (by omega) (by omega),Ñ hi (by omega)];rfl
      ·try dsimp only
       unfold amm;rw[ã,List.take_length]
    ·have h2':aw6 day=false:=by simpa using h2
     rw[h2',Ú (by rfl),if_pos (.inr (.inr rfl))]
   ·have h1':aga ids=false:=by simpa using h1
    rw[h1',Ú (by rfl),if_pos (.inr (.inl rfl))]
 ·rw[Ú (by simp[ine,hc]),if_pos hc]
theorem aiX {α:Type} (p:α→Bool) (l:List α) (i:Nat):((l.take i).filter p).length≤l.length:=by
 have h1:=List.length_filter_le p (l.take i);rw[List.length_take] at h1;omega
end Go.Proofs.ZzM
end
noncomputable section
namespace Go.Proofs.ZzM
open Go Go.Am
theorem aID (x y:Int) (g:Bool):∀m:List (Int×Bool),akW (k:=tI) (v:=.bool) x (aBM (k:=tI) (v:=.bool) y g m)=if x=y then some g else akW (k:=tI) (v:=.bool) x m
 |[]=>by
  unfold aBM akW afe akW
  by_cases h:x=y<;>simp[h]
 |e::m=>by
  unfold aBM
  by_cases h:y=e.1
  ·have:afe tI y e.1=true:=by simp[afe,h]
   rw[this]
   try dsimp only
   unfold akW afe
   by_cases h2:x=y
   ·simp[h2]
   ·have:¬x=e.1:=fun h3=>h2 (h3.trans h.symm);simp[h2,this]
  ·have:afe tI y e.1=false:=by simp[afe,h]
   rw[this]
   try dsimp only
   have ih:=aID x y g m;unfold akW
   by_cases h2:x=e.1
   ·have:afe tI x e.1=true:=by simp[afe,h2]
    rw[this];have:¬x=y:=fun h3=>h (h3.symm.trans h2);simp[this]
   ·have:afe tI x e.1=false:=by simp[afe,h2]
    rw[this];exact ih
def aGf (l:List Int):List (Int×Bool):=l.foldl (fun m x=>aBM (k:=tI) (v:=.bool) x true m) []
theorem an2 (l:List Int) (x:Int):aGf (l++[x])=aBM (k:=tI) (v:=.bool) x true (aGf l):=by unfold aGf; rw[List.foldl_append]; rfl
theorem aOn (x:Int):∀(l:List Int) (m:List (Int×Bool)),akW (k:=tI) (v:=.bool) x (l.foldl (fun m x=>aBM (k:=tI) (v:=.bool) x true m) m)=if l.contains x then some true else akW (k:=tI) (v:=.bool) x m
 |[],m=>by simp
 |y::l,m=>by
  rw[List.foldl_cons,aOn x l,aID]
  by_cases h:x=y
  ·subst h; simp
  ·simp[h]
theorem aOl (l:List Int) (x:Int):akW (k:=tI) (v:=.bool) x (aGf l)=if l.contains x then some true else none:=aOn x l []
def atJ (b:â) (s:Int×Int):List Int:=if s.1=3 then(match b.2.2.2.2.1[s.2.toNat]? with|some c=>c.2.2.1++c.2.2.2.1|none=>[]) else(match b.2.1[s.2.toNat]? with|some g=>[g.1]|none=>[])
def aFE (b:â) (ss looks:List (Int×Int)):List Int:=ss.flatMap (atJ b)++looks.map fun n=>n.1
def awR (ss:List (Int×Int)):List Int:=(ss.filter fun s=>s.1==3).map fun s=>s.2
def atq (w:List Int):Nat→List Cmp→List Cmp
 |_,[]=>[]
 |i,c::t=>if w.contains (i:Int) then c::atq w (i+1) t else atq w (i+1) t
def cutP (b:â) (ss looks:List (Int×Int)):â :=
 (b.1,b.2.1.filter fun g=>(aFE b ss looks).contains g.1,b.2.2.1.filter fun u=>(aFE b ss looks).contains u.1,b.2.2.2.1.filter fun l=>(aFE b ss looks).contains l.1,atq (awR ss) 0 b.2.2.2.2.1,looks)
def a2n (b:â) (s:Int×Int):Prop:=((s.1=1∨s.1=2)∧0≤s.2∧s.2<b.2.1.length)∨(s.1=3∧0≤s.2∧s.2<b.2.2.2.2.1.length)
theorem aI6 (w:List Int) (c:Cmp):∀(l:List Cmp) (i:Nat),atq w i (l++[c])=atq w i l++if w.contains ((i+l.length:Nat):Int) then[c] else[]
 |[],i=>by simp only[List.nil_append,atq,List.length_nil,Nat.add_zero]
 |a::l,i=>by
  have e:((i+1+l.length:Nat):Int)=((i+(l.length+1):Nat):Int):=by congr 1; omega
  simp only[List.cons_append,atq,aI6 w c l (i+1),List.length_cons,e]
  split<;>rfl
theorem aFa (w:List Int):∀(l:List Cmp) (i:Nat),(atq w i l).length≤l.length
 |[],i=>by simp[atq]
 |a::l,i=>by
  have:=aFa w l (i+1);simp only[atq]
  split<;>simp only[List.length_cons]<;>omega
theorem apw {ρ:Type} (x:Int) (l:List Int) (f:Bool→Option ρ) (g:Option ρ):aNc (k:=tI) (v:=.bool) x (aGf l) f g=if l.contains x then f true else g:=by
 unfold aNc;rw[aOl]
 by_cases h:l.contains x=true
 ·rw[if_pos h,if_pos h]
 ·rw[if_neg h,if_neg h]
section
variable {ρ:Type}
theorem cut_L3 (l:List (Int×Int)) (hl:l.length≤1000) (ids:List Int) (K:List (Int×Int)→Option ρ):Ì (fun(v47:(Val (.pair tI (.slice Ã)))) kk50=>ala l (Û l) (aGf ids) v47.1 v47.2 (fun u48 u49=>kk50 (u48,u49)) K) ((0:Int),[])=K (l.filter fun u=>ids.contains u.1):=by
 refine ñ l (fun i=>(l.take i).filter fun u=>ids.contains u.1) _ rfl (fun i a hi ha kn=>?_) (fun kn=>?_)
 ·try dsimp only
  unfold ala;have h1:=aiX (fun u:Int×Int=>ids.contains u.1) l i;rw[Ö hi,Ë ha,apw,take_succ ha,List.filter_append]
  by_cases h:ids.contains a.1=true
  ·rw[if_pos h,ī,ģ (Ù (by simp only[List.length_singleton]; omega)),Ñ hi (by omega)];simp only[List.filter_cons,List.filter_nil,h,if_pos]
  ·rw[if_neg h,Ñ hi (by omega)];simp only[List.filter_cons,List.filter_nil,h,if_neg,Bool.false_eq_true,not_false_eq_true,List.append_nil]
 ·try dsimp only
  unfold ala;rw[ã,List.take_length]
theorem cut_L4 (l:List aAq) (hl:l.length≤1000) (ids:List Int) (K:List aAq→Option ρ):Ì (fun(v47:(Val (.pair tI (.slice Ō)))) kk50=>ak9 l (Û l) (aGf ids) v47.1 v47.2 (fun u48 u49=>kk50 (u48,u49)) K) ((0:Int),[])=K (l.filter fun u=>ids.contains u.1):=by
 refine ñ l (fun i=>(l.take i).filter fun u=>ids.contains u.1) _ rfl (fun i a hi ha kn=>?_) (fun kn=>?_)
 ·try dsimp only
  unfold ak9;have h1:=aiX (fun u:aAq=>ids.contains u.1) l i;rw[Ö hi,Ë ha,apw,take_succ ha,List.filter_append]
  by_cases h:ids.contains a.1=true
  ·rw[if_pos h,ī,ģ (Ù (by simp only[List.length_singleton]; omega)),Ñ hi (by omega)];simp only[List.filter_cons,List.filter_nil,h,if_pos]
  ·rw[if_neg h,Ñ hi (by omega)];simp only[List.filter_cons,List.filter_nil,h,if_neg,Bool.false_eq_true,not_false_eq_true,List.append_nil]
 ·try dsimp only
  unfold ak9;rw[ã,List.take_length]
theorem cut_L5 (l:List Cmp) (hl:l.length≤1000) (hp:∀c∈l,c.2.2.1.length≤1000∧c.2.2.2.1.length≤1000) (w:List Int) (K:List Cmp→Option ρ):Ì (fun(v47:(Val (.pair tI (.slice Í)))) kk50=>ak8 l (Û l) (aGf w) v47.1 v47.2 (fun u48 u49=>kk50 (u48,u49)) K) ((0:Int),[])=K (atq w 0 l):=by
 refine ñ l (fun i=>atq w 0 (l.take i)) _ rfl (fun i a hi ha kn=>?_) (fun kn=>?_)
 ·try dsimp only
  unfold ak8;have h1:=aFa w (l.take i) 0;have h2:=hp a (List.mem_of_getElem? ha)
  have e:(l.take i).length=i:=by rw[List.length_take]; omega
  rw[Ö hi,Ë ha,apw,take_succ ha,aI6,e,Nat.zero_add]
  by_cases h:w.contains (i:Int)=true
  ·rw[if_pos h,if_pos h,ī,ģ (Ù (by omega)),ģ (Ù (by omega)),ģ (Ù (by simp only[List.length_singleton]; omega)),Ñ hi (by omega)]
  ·rw[if_neg h,if_neg h,Ñ hi (by omega)];simp only[List.append_nil]
 ·try dsimp only
  unfold ak8;rw[ã,List.take_length]
theorem cut_L2 (looks:List (Int×Int)) (hl:looks.length≤1000) (ids:List Int) (K:List (Int×Bool)→Option ρ):Ì (fun(v51:(Val (.pair tI (.map tI .bool)))) kk54=>alb looks (Û looks) v51.1 v51.2 (fun u52 u53=>kk54 (u52,u53)) K) ((0:Int),aGf ids)=K (aGf (ids++looks.map fun n=>n.1)):=by
 refine ñ looks (fun i=>aGf (ids++(looks.take i).map fun n=>n.1)) _ (by simp) (fun i a hi ha kn=>?_) (fun kn=>?_)
 ·try dsimp only
  unfold alb;rw[Ö hi,Ë ha,Ñ hi (by omega),take_succ ha,List.map_append,←List.append_assoc,List.map_singleton,an2]
 ·try dsimp only
  unfold alb;rw[ã,List.take_length]
theorem cut_L1 (xs:List Int) (hl:xs.length≤10000) (ids:List Int) (K:List (Int×Bool)→Option ρ):Ì (fun(v13:(Val (.pair tI (.map tI .bool)))) kk16=>alc xs (Û xs) v13.1 v13.2 (fun u14 u15=>kk16 (u14,u15)) K) ((0:Int),aGf ids)=K (aGf (ids++xs)):=by
 refine ñ xs (fun i=>aGf (ids++xs.take i)) _ (by simp) (fun i a hi ha kn=>?_) (fun kn=>?_)
 ·try dsimp only
  unfold alc;rw[Ö hi,Ë ha,Ñ hi (by omega),take_succ ha,←List.append_assoc,an2]
 ·try dsimp only
  unfold alc;rw[ã,List.take_length]
end
theorem aes {ρ α:Type} {l:List α} {i:Int} (h0:0≤i) {a:α} (h:l[i.toNat]?=some a) (f:α→Option ρ):ă l i f=f a:=by
 obtain⟨n,rfl⟩:=Int.eq_ofNat_of_zero_le h0;exact Ë (by simpa using h) f
theorem cut_ok {b:â} (hs:Ż b) {ss looks:List (Int×Int)} (h1:ss.length≤1000) (h2:looks.length≤1000) (hv:∀s∈ss,a2n b s):aFt b ss looks=some (cutP b ss looks):=by
 have g1:=hs.gauges; have g2:=hs.uses; have g3:=hs.loans; have g4:=hs.compares; have g5:=hs.looks;unfold aFt aW6 avg;refine ñ ss (fun i=>(aGf ((ss.take i).flatMap (atJ b)),aGf (awR (ss.take i)))) _ rfl (fun i s hi ha kn=>?_) (fun kn=>?_)
 ·try dsimp only
  unfold aqc;have hok:=hv s (List.mem_of_getElem? ha);rw[Ö hi,Ë ha,take_succ ha,List.flatMap_append]
  have e3:awR (ss.take i++[s])=awR (ss.take i)++if s.1=3 then[s.2] else[]:=by
   unfold awR;rw[List.filter_append,List.map_append];congr 1
   by_cases h:s.1=3<;>simp[h]
  rw[e3];rcases hok with⟨hk,h0,h3⟩|⟨hk,h0,h3⟩
  ·have hg:b.2.1[s.2.toNat]?=some b.2.1[s.2.toNat]:=List.getElem?_eq_getElem (by omega);generalize b.2.1[s.2.toNat]=g at hg
   have e1:atJ b s=[g.1]:=by
    unfold atJ;rw[if_neg (by omega),hg]
   have e2:List.flatMap (atJ b) [s]=[g.1]:=by simp[e1]
   rw[Õ (decide_eq_false (by omega)),if_neg (by omega),List.append_nil,e2,an2];rcases hk with hk|hk
   ·rw[Ú (decide_eq_true hk),aes h0 hg,Ñ hi (by omega)]
   ·rw[Õ (decide_eq_false (by omega)),Ú (decide_eq_true hk),aes h0 hg,Ñ hi (by omega)]
  ·have hc:b.2.2.2.2.1[s.2.toNat]?=some b.2.2.2.2.1[s.2.toNat]:=List.getElem?_eq_getElem (by omega);have hp:=hs.piles b.2.2.2.2.1[s.2.toNat] (List.getElem_mem _);generalize b.2.2.2.2.1[s.2.toNat]=c at hc hp
   have e1:atJ b s=c.2.2.1++c.2.2.2.1:=by
    unfold atJ;rw[if_pos hk,hc]
   have e2:List.flatMap (atJ b) [s]=c.2.2.1++c.2.2.2.1:=by simp[e1]
   rw[Õ (decide_eq_false (by omega)),Õ (decide_eq_false (by omega)),Õ (decide_eq_false (by omega)),ģ (decide_eq_true hk),if_pos hk,e2,aes h0 hc,aes h0 hc,ait (by simp) (by simp; omega),À];rw[show([c.2.2.1,c.2.2.2.1]:List (List Int)).flatten=c.2.2.1++c.2.2.2.1 by simp];refine(cut_L1 (c.2.2.1++c.2.2.2.1) (by simp; omega) _ _).trans ?_;rw[an2,Ñ hi (by omega)]
 ·try dsimp only
  unfold aqc;rw[ã];dsimp only;rw[List.take_length];refine(cut_L2 looks h2 _ _).trans ?_;rw[show(ss.flatMap (atJ b)++looks.map fun n=>n.1)=aFE b ss looks from rfl];unfold aqk
  try dsimp only
  rw[ģ (Ù (by omega)),À]
  have ek:(List.filter (fun g=>(akW (k:=tI) (v:=.bool) g.1 (aGf (aFE b ss looks))).getD false) b.2.1)=b.2.1.filter fun g=>(aFE b ss looks).contains g.1:=by
   refine List.filter_congr fun g _=>?_;rw[aOl]
   cases(aFE b ss looks).contains g.1<;>rfl
  rw[ek];unfold ahd;dsimp only;refine(cut_L3 b.2.2.1 g2 _ _).trans ?_;refine(cut_L4 b.2.2.2.1 g3 _ _).trans ?_;refine(cut_L5 b.2.2.2.2.1 g4 hs.piles _ _).trans ?_;rfl
end Go.Proofs.ZzM
end
noncomputable section
namespace Go.Proofs.ZzM
open Go Go.Am
theorem aWt {α:Type} [DecidableEq α] {l m:List α} (hl:l.length=m.length) (h:ĵ (fun i a=>if m[i]?=some a then none else some false) 0 l=none):l=m:=by
 have:=adJ.1 h;refine List.ext_getElem hl fun i h1 h2=>?_;have h3:=this i l[i] (List.getElem?_eq_getElem h1);rw[Nat.zero_add] at h3
 split at h3
 ·rename_i h4;rw[List.getElem?_eq_getElem h2] at h4;exact(Option.some.inj h4).symm
 ·cases h3
theorem aWs {α:Type} [DecidableEq α] {l m:List α} {b:Bool} (h:ĵ (fun i a=>if m[i]?=some a then none else some false) 0 l=some b):b=false∧l≠m:=by
 constructor
 ·have:∀(k:Nat) (x:List α) (b:Bool),ĵ (fun i a=>if m[i]?=some a then none else some false) k x=some b→b=false:=by
   intro k x
   induction x generalizing k with
   |nil=>intro b h; cases h
   |cons a t ih =>
    intro b h;unfold ĵ at h
    split at h
    ·rename_i c hc
     split at hc
     ·cases hc
     ·cases hc; cases h; rfl
    ·exact ih _ _ h
  exact this _ _ _ h
 ·intro e;subst e;rw[adJ.2 fun j a ha=>by rw[Nat.zero_add,if_pos ha]] at h;cases h
end Go.Proofs.ZzM
end
noncomputable section
namespace Go.Proofs.ZzM
open Go Go.Am
instance dec1:DecidableEq ((Int×Int)×Int):=fun a b=>instDecidableEqProd a b
instance dec2:DecidableEq ((Int×Int)×((Int×Int)×Int)):=fun a b=>instDecidableEqProd a b
instance dec3:DecidableEq (Int×(Int×Int)×((Int×Int)×Int)):=fun a b=>instDecidableEqProd a b
instance dec4:DecidableEq (Int×Int×(Int×Int)×((Int×Int)×Int)):=fun a b=>instDecidableEqProd a b
instance decG:DecidableEq î:=fun a b=>instDecidableEqProd a b
instance decL:DecidableEq aAq:=fun a b=>instDecidableEqProd a b
instance decI4:DecidableEq (Int×(Int×(Int×Int))):=fun a b=>instDecidableEqProd a b
instance decI5:DecidableEq (List Int×Int×(Int×(Int×Int))):=fun a b=>instDecidableEqProd a b
instance decI6:DecidableEq (List Int×List Int×Int×(Int×(Int×Int))):=fun a b=>instDecidableEqProd a b
instance decI7:DecidableEq (Int×List Int×List Int×Int×(Int×(Int×Int))):=fun a b=>instDecidableEqProd a b
instance decC:DecidableEq Cmp:=fun a b=>instDecidableEqProd a b
def aKf {α:Type} [DecidableEq α] (x:α) (l:List α):Bool:=l.any fun a=>decide (x=a)
theorem aTF {α:Type} [DecidableEq α] {x:α} {l:List α}:aKf x l=true↔x∈l:=by
 unfold aKf;rw[List.any_eq_true];exact⟨fun⟨a,h1,h2⟩=>by rw[of_decide_eq_true h2]; exact h1,fun h=>⟨x,h,decide_eq_true rfl⟩⟩
theorem aRo {α:Type} [DecidableEq α] (l:List α) (x:α):ige (match l.findIdx? (fun a=>decide (x=a)) with|some j=>(j:Int)|none=>-1) 0=aKf x l:=by
 cases h:l.findIdx? (fun a=>decide (x=a)) with
 |none =>
  have:aKf x l=false:=by
   cases hm:aKf x l with
   |false=>rfl
   |true=>have:=List.findIdx?_eq_none_iff.1 h x (aTF.1 hm); simp at this
  rw[this];rfl
 |some j =>
  obtain⟨hj,hp,_⟩:=List.findIdx?_eq_some_iff_getElem.1 h
  have:x∈l:=by rw[of_decide_eq_true hp]; exact List.getElem_mem _
  rw[aTF.2 this];exact decide_eq_true (by dsimp only; omega)
theorem aW1 {ρ:Type} (o:Option Nat) (f:Int→Option ρ):(match o with|some j=>f (j:Int)|none=>f (-1))=f (match o with|some j=>(j:Int)|none=>-1):=by cases o<;>rfl
theorem aQM {l:List (Int×Int)} (hl:l.length≤1000000) (x:Int×Int):Ĝ l x=some (aKf x l):=by
 unfold Ĝ ũ ζ Ω
 have e:Ì (fun(v5:Int) kk7=>Ě l (Û l) x.1 x.2 v5 (fun u6=>kk7 u6) (fun z3=>some z3) (fun _=>some (-1:Int))) (0:Int)=some (match l.findIdx? (fun a=>decide (x=a)) with|some j=>(j:Int)|none=>-1):=by
  refine(adl l (fun a=>decide (x=a)) (fun z=>some z) (some (-1)) (fun i a hi ha kn=>?_) (fun kn=>?_)).trans (aW1 _ some)
  ·try dsimp only
   unfold Ě
   have e:((Ă x.1 a.1)&&((Ă x.2 a.2)&&true))=decide (x=a):=by
    rw[Bool.eq_iff_iff]; simp[Ă,Prod.ext_iff]
   rw[Ö hi,Ë ha,Ñ hi (by omega),Ĥ,e]
  ·try dsimp only
   unfold Ě;rw[ã]
 rw[e,À];exact congrArg some (aRo l x)
theorem aNa {l:List aAq} (hl:l.length≤1000000) (x:aAq):Ď l x=some (aKf x l):=by
 unfold Ď ř Ź ŷ
 have e:Ì (fun(v5:Int) kk7=>č l (Û l) x.1 x.2.1.1 x.2.1.2 x.2.2 v5 (fun u6=>kk7 u6) (fun z3=>some z3) (fun _=>some (-1:Int))) (0:Int)=some (match l.findIdx? (fun a=>decide (x=a)) with|some j=>(j:Int)|none=>-1):=by
  refine(adl l (fun a=>decide (x=a)) (fun z=>some z) (some (-1)) (fun i a hi ha kn=>?_) (fun kn=>?_)).trans (aW1 _ some)
  ·try dsimp only
   unfold č
   have e:((Ă x.1 a.1)&&((Ă x.2.1.1 a.2.1.1)&&((Ă x.2.1.2 a.2.1.2)&&((Ă x.2.2 a.2.2)&&true))))=decide (x=a):=by
    rw[Bool.eq_iff_iff]; simp[Ă,Prod.ext_iff,and_assoc]
   rw[Ö hi,Ë ha,Ñ hi (by omega),Ĥ,e]
  ·try dsimp only
   unfold č;rw[ã]
 rw[e,À];exact congrArg some (aRo l x)
theorem aQN {l:List î} (hl:l.length≤1000000) (x:î):Ġ l x=some (aKf x l):=by
 unfold Ġ Ŋ ŧ Ŧ
 have e:Ì (fun(v5:Int) kk7=>ą l (Û l) x.1 x.2.1 x.2.2.1 x.2.2.2.1.1 x.2.2.2.1.2 x.2.2.2.2.1.1 x.2.2.2.2.1.2 x.2.2.2.2.2 v5 (fun u6=>kk7 u6) (fun z3=>some z3) (fun _=>some (-1:Int))) (0:Int)=some (match l.findIdx? (fun a=>decide (x=a)) with|some j=>(j:Int)|none=>-1):=by
  refine(adl l (fun a=>decide (x=a)) (fun z=>some z) (some (-1)) (fun i a hi ha kn=>?_) (fun kn=>?_)).trans (aW1 _ some)
  ·try dsimp only
   unfold ą
   have e:((Ă x.1 a.1)&&((Ă x.2.1 a.2.1)&&((Ă x.2.2.1 a.2.2.1)&&((Ă x.2.2.2.1.1 a.2.2.2.1.1)&&((Ă x.2.2.2.1.2 a.2.2.2.1.2)&&((Ă x.2.2.2.2.1.1 a.2.2.2.2.1.1)&&((Ă x.2.2.2.2.1.2 a.2.2.2.2.1.2)&&((Ă x.2.2.2.2.2 a.2.2.2.2.2)&&true))))))))=decide (x=a):=by
    rw[Bool.eq_iff_iff]; simp[Ă,Prod.ext_iff,and_assoc]
   rw[Ö hi,Ë ha,Ñ hi (by omega),Ĥ,e]
  ·try dsimp only
   unfold ą;rw[ã]
 rw[e,À];exact congrArg some (aRo l x)
def aXz (b:â):List Int:=b.2.1.map fun g=>g.1
def agm {α:Type} [DecidableEq α] (x y:List α) (w:α→Bool):Bool:=x.all fun a=>!w a||aKf a y
def aZH (s b:â):Bool :=
 agm s.2.2.2.2.1 b.2.2.2.2.1 (fun _=>true)&&(decide (s.1=b.1)&&(agm s.2.1 b.2.1 (fun _=>true)&&(agm s.2.2.1 b.2.2.1 (fun u=>(aXz s).contains u.1)&&(agm b.2.2.1 s.2.2.1 (fun u=>(aXz s).contains u.1) &&
  (agm s.2.2.2.1 b.2.2.2.1 (fun u=>(aXz s).contains u.1)&&agm b.2.2.2.1 s.2.2.2.1 (fun u=>(aXz s).contains u.1))))))
section
variable {ρ:Type}
theorem ay1 {α:Type} [DecidableEq α] (x y:List α) (w:α→Bool) (X Y KF:Option ρ) {f:Int→(Int→Option ρ)→Option ρ}
 (h:∀(i:Nat) (a:α),i<x.length→x[i]?=some a→∀kn,f i kn=if !(!w a||aKf a y) then(ifb (!(ige (i:Int) 0)) X KF) else kn ((i:Int)+1))
 (hn:∀kn,f x.length kn=Y):Ì f 0=if agm x y w then Y else KF:=by
 refine(Ĺ x (fun a=>!(!w a||aKf a y)) (fun z=>ifb (!(ige z 0)) X KF) KF Y (fun j=>by rw[show ige (j:Int) 0=true from decide_eq_true (by omega)]; rfl) h hn).trans ?_;unfold agm;rw[List.all_eq_not_any_not]
 cases x.any fun a=>!(!w a||aKf a y)<;>rfl
theorem a1L:@amf ρ=@agB ρ:=rfl
theorem aI2 {x y:List Int} (hl:x.length=y.length) (hx:x.length≤1000000) (k0:Bool→Option ρ) (K:Option ρ) :
 Ì (fun(v30:Int) kk32=>agB x y (Û x) v30 (fun u31=>kk32 u31) k0 (fun _=>K)) (0:Int)=if x=y then K else k0 false:=by
 refine(afn x (fun i a=>if y[i]?=some a then none else some false) k0 K (fun i a hi ha kn=>?_) (fun kn=>?_)).trans ?_
 ·try dsimp only
  unfold agB;have hm:y[i]?=some y[i]:=List.getElem?_eq_getElem (by omega);rw[Ö hi,Ë ha,Ë hm,Ñ hi (by omega),hm,Ĥ]
  by_cases h:a=y[i]
  ·simp[ine,h]
  ·have h':¬y[i]=a:=fun e=>h e.symm;simp[ine,h,h']
 ·try dsimp only
  unfold agB;rw[ã]
 ·cases h:ĵ (fun i a=>if y[i]?=some a then none else some false) 0 x with
  |none=>rw[if_pos (aWt hl h)]
  |some b =>
   obtain⟨h1,h2⟩:=aWs h;rw[if_neg h2,h1]
theorem aWu {l:List Cmp} (hl:l.length≤1000) (c:Cmp) (hA:c.2.2.1.length≤1000) (hB:c.2.2.2.1.length≤1000) (k0:Int→Option ρ) (K1 KF:Option ρ) (hk:∀j:Nat,k0 (j:Int)=K1) :
 Ì (fun(v41:Int) kk43=>aiK l (Û l) c.1 c.2.1 c.2.2.1 c.2.2.2.1 c.2.2.2.2.1 c.2.2.2.2.2.1 c.2.2.2.2.2.2.1 c.2.2.2.2.2.2.2 v41 (fun u42=>kk43 u42) k0 (fun _=>KF)) (0:Int)=if aKf c l then K1 else KF:=by
 refine(Ĺ l (fun d=>decide (c=d)) k0 K1 KF hk (fun i d hi hd kn=>?_) (fun kn=>?_)).trans rfl
 ·try dsimp only
  unfold aiK
  have hsplit:(c=d)↔(c.1=d.1∧c.2.1=d.2.1∧c.2.2.2.2.1=d.2.2.2.2.1∧c.2.2.2.2.2.1=d.2.2.2.2.2.1∧(c.2.2.2.2.2.2.1=d.2.2.2.2.2.2.1∧c.2.2.2.2.2.2.2=d.2.2.2.2.2.2.2)∧c.2.2.1=d.2.2.1∧c.2.2.2.1=d.2.2.2.1):=by
   simp only[Prod.ext_iff];constructor
   ·rintro⟨a1,a2,a3,a4,a5,a6,a7,a8⟩; exact⟨a1,a2,a5,a6,⟨a7,a8⟩,a3,a4⟩
   ·rintro⟨a1,a2,a5,a6,⟨a7,a8⟩,a3,a4⟩; exact⟨a1,a2,a3,a4,a5,a6,a7,a8⟩
  have hno:∀{P:Prop},¬P→(c=d→P)→(if decide (c=d)=true then k0 (i:Int) else kn ((i:Int)+1))=kn ((i:Int)+1):=fun h1 h2=>by
   rw[if_neg];intro h;exact h1 (h2 (of_decide_eq_true h))
  rw[Ö hi,Ë hd,Ñ hi (by omega)]
  by_cases a1:c.1=d.1
  case neg=>rw[hno a1 (fun e=>(hsplit.1 e).1),Õ (beq_eq_false_iff_ne.2 a1)]
  rw[Ú (beq_iff_eq.2 a1)]
  by_cases a2:c.2.1=d.2.1
  case neg=>rw[hno a2 (fun e=>(hsplit.1 e).2.1),Õ (beq_eq_false_iff_ne.2 a2)]
  rw[Ú (beq_iff_eq.2 a2)]
  by_cases a3:c.2.2.2.2.1=d.2.2.2.2.1
  case neg=>rw[hno a3 (fun e=>(hsplit.1 e).2.2.1),Õ (beq_eq_false_iff_ne.2 a3)]
  rw[Ú (beq_iff_eq.2 a3)]
  by_cases a4:c.2.2.2.2.2.1=d.2.2.2.2.2.1
  case neg=>rw[hno a4 (fun e=>(hsplit.1 e).2.2.2.1),Õ (beq_eq_false_iff_ne.2 a4)]
  rw[Ú (beq_iff_eq.2 a4)]
  by_cases a5:c.2.2.2.2.2.2.1=d.2.2.2.2.2.2.1∧c.2.2.2.2.2.2.2=d.2.2.2.2.2.2.2
  case neg=>rw[hno a5 (fun e=>(hsplit.1 e).2.2.2.2.1),Õ (by simp only[Ă,Bool.and_true,Bool.and_eq_false_iff,decide_eq_false_iff_not]; exact Decidable.not_and_iff_or_not.1 a5)]
  rw[Ú (by simp[Ă,a5.1,a5.2]),ç,ç,ç,ç]
  have rest:∀X Y:Option ρ,(c.2.2.1=d.2.2.1)→(if decide (c=d)=true then k0 (i:Int) else kn ((i:Int)+1))=(if c.2.2.2.1=d.2.2.2.1 then k0 (i:Int) else kn ((i:Int)+1)):=by
   intro _ _ h
   by_cases g:c.2.2.2.1=d.2.2.2.1
   ·rw[if_pos (decide_eq_true (hsplit.2 ⟨a1,a2,a3,a4,a5,h,g⟩)),if_pos g]
   ·rw[if_neg g]; exact hno g (fun e=>(hsplit.1 e).2.2.2.2.2.2)
  by_cases l1:c.2.2.1.length=d.2.2.1.length
  case neg =>
   rw[hno l1 (fun e=>by rw[e]),Ú (bne_iff_ne.2 (by omega))]
  rw[Õ (by rw[l1]; exact bne_self_eq_false' _)];have e3:=aI2 (ρ:=ρ) l1 (by omega);rw[ç] at e3;rw[e3]
  by_cases g1:c.2.2.1=d.2.2.1
  case neg=>rw[if_neg g1,è,hno g1 (fun e=>(hsplit.1 e).2.2.2.2.2.1)]
  rw[if_pos g1,rest none none g1]
  by_cases l2:c.2.2.2.1.length=d.2.2.2.1.length
  case neg =>
   rw[Ú (bne_iff_ne.2 (by omega)),if_neg (fun e=>l2 (by rw[e]))]
  rw[Õ (by rw[l2]; exact bne_self_eq_false' _),a1L];have e4:=aI2 (ρ:=ρ) l2 (by omega);rw[ç] at e4;rw[e4,è]
 ·try dsimp only
  unfold aiK;rw[ã]
theorem a1K:@agA ρ=@afa ρ:=rfl
theorem a1J:@ė ρ=@Ł ρ:=rfl
theorem a2v {x y:List î} (hx:x.length≤1000) (hy:y.length≤1000) (X Y KF:Option ρ):Ì (fun(v225:Int) kk227=>aiJ x (Û x) y v225 (fun u226=>kk227 u226) (fun z=>ifb (!(ige z 0)) X KF) (fun _=>Y)) (0:Int)=if agm x y (fun _=>true) then Y else KF:=by
 refine ay1 x y (fun _=>true) X Y KF (fun i a hi ha kn=>?_) (fun kn=>?_)
 ·try dsimp only
  unfold aiJ;rw[Ö hi,Ë ha,aQN (by omega),À,Ñ hi (by omega),Ĥ];simp
 ·try dsimp only
  unfold aiJ;rw[ã]
theorem aY2 {x y:List (Int×Int)} (hx:x.length≤1000) (hy:y.length≤1000) (ids:List Int) (X Y KF:Option ρ):Ì (fun(v225:Int) kk227=>afa x (Û x) (aGf ids) y v225 (fun u226=>kk227 u226) (fun z=>ifb (!(ige z 0)) X KF) (fun _=>Y)) (0:Int)=if agm x y (fun u=>ids.contains u.1) then Y else KF:=by
 refine ay1 x y (fun u=>ids.contains u.1) X Y KF (fun i a hi ha kn=>?_) (fun kn=>?_)
 ·try dsimp only
  unfold afa;rw[Ö hi,Ë ha,apw,aQM (by omega),À]
  by_cases h:ids.contains a.1=true
  ·rw[if_pos h,ī,Ñ hi (by omega),Ĥ,h];simp
  ·rw[if_neg h,Ñ hi (by omega)];have h':=Bool.not_eq_true _▸h;rw[h'];simp
 ·try dsimp only
  unfold afa;rw[ã]
theorem aY1 {x y:List aAq} (hx:x.length≤1000) (hy:y.length≤1000) (ids:List Int) (X Y KF:Option ρ):Ì (fun(v225:Int) kk227=>Ł x (Û x) (aGf ids) y v225 (fun u226=>kk227 u226) (fun z=>ifb (!(ige z 0)) X KF) (fun _=>Y)) (0:Int)=if agm x y (fun u=>ids.contains u.1) then Y else KF:=by
 refine ay1 x y (fun u=>ids.contains u.1) X Y KF (fun i a hi ha kn=>?_) (fun kn=>?_)
 ·try dsimp only
  unfold Ł;rw[Ö hi,Ë ha,apw,aNa (by omega),À]
  by_cases h:ids.contains a.1=true
  ·rw[if_pos h,ī,Ñ hi (by omega),Ĥ,h];simp
  ·rw[if_neg h,Ñ hi (by omega)];have h':=Bool.not_eq_true _▸h;rw[h'];simp
 ·try dsimp only
  unfold Ł;rw[ã]
theorem a2u {x y:List aAq} (hx:x.length≤1000) (hy:y.length≤1000) (ids:List Int) (k:Bool→Option ρ):Ì (fun(v225:Int) kk227=>Ł x (Û x) (aGf ids) y v225 (fun u226=>kk227 u226) (fun z=>k (!(ige z 0))) (fun _=>k true)) (0:Int)=k (agm x y (fun u=>ids.contains u.1)):=by
 have h:=aY1 (ρ:=ρ) hx hy ids (k true) (k true) (k false)
 have e:(fun z:Int=>ifb (!(ige z 0)) (k true) (k false))=fun z=>k (!(ige z 0)):=by
  funext z
  cases(!(ige z 0))<;>rfl
 rw[e] at h;rw[h]
 cases agm x y (fun u=>ids.contains u.1)<;>rfl
theorem a2w {x y:List Cmp} (hx:x.length≤1000) (hp:∀c∈x,c.2.2.1.length≤1000∧c.2.2.2.1.length≤1000) (hy:y.length≤1000) (K:Option Bool):Ì (fun(v228:Int) kk230=>aiL x (Û x) y v228 (fun u229=>kk230 u229) (fun z44=>some z44) (fun _=>K)) (0:Int)=if (x.all fun c=>aKf c y)=true then K else some false:=by
 refine(Ĺ x (fun c=>!aKf c y) (fun _=>some false) (some false) K (fun _=>rfl) (fun i c hi hc kn=>?_) (fun kn=>?_)).trans ?_
 rotate_left
 ·try dsimp only
  unfold aiL;rw[ã]
 ·rw[List.all_eq_not_any_not]
  cases x.any fun c=>!aKf c y<;>rfl
 ·try dsimp only
  unfold aiL;have h:=hp c (List.mem_of_getElem? hc);rw[Ö hi,Ë hc];refine(aWu hy c h.1 h.2 _ (kn ((i:Int)+1)) (some false) (fun j=>by rw[show ige (j:Int) 0=true from decide_eq_true (by omega),Ñ hi (by omega)]; rfl)).trans ?_
  cases aKf c y<;>rfl
end
theorem part_ok {s b:â} (hs:Ż s) (hb:Ż b):awB s b=some (aZH s b):=by
 have g1:=hs.gauges; have g2:=hs.uses; have g3:=hs.loans; have g4:=hs.compares;have b1:=hb.gauges; have b2:=hb.uses; have b3:=hb.loans; have b4:=hb.compares;unfold awB aLc aZH;rw[a1K,a1J];refine(ñ s.2.1 (fun i=>aGf (aXz (s.1,s.2.1.take i,s.2.2))) (some _) rfl (fun i g hi hg kn=>?_) (fun kn=>?_))
 ·try dsimp only
  unfold amg;rw[Ö hi,Ë hg,Ñ hi (by omega)];unfold aXz;dsimp only;rw[take_succ hg,List.map_append,List.map_singleton,an2]
 ·try dsimp only
  unfold amg;rw[ã,List.take_length]
  try dsimp only
  rw[show aXz (s.1,s.2.1,s.2.2)=aXz s from rfl];refine(a2w g4 hs.piles b4 _).trans ?_;rw[show(agm s.2.2.2.2.1 b.2.2.2.2.1 fun _=>true)=s.2.2.2.2.1.all fun c=>aKf c b.2.2.2.2.1 from rfl]
  by_cases hc:(s.2.2.2.2.1.all fun c=>aKf c b.2.2.2.2.1)=true
  case neg=>rw[if_neg hc,Bool.eq_false_iff.2 hc]; rfl
  rw[if_pos hc,hc,Bool.true_and]
  by_cases hf:s.1=b.1
  case neg =>
   have ef:(Ă s.1.1 b.1.1&&(Ă s.1.2 b.1.2&&true))=false:=by
    rw[Prod.ext_iff] at hf;simp[Ă];omega
   rw[ef,è,decide_eq_false hf];rfl
  have ef:(Ă s.1.1 b.1.1&&(Ă s.1.2 b.1.2&&true))=true:=by simp[Ă,hf]
  rw[ef,ī,decide_eq_true hf,Bool.true_and];refine(a2v g1 b1 _ _ _).trans ?_;cases agm s.2.1 b.2.1 fun _=>true
  case false=>rfl
  rw[if_pos rfl,Bool.true_and];refine(aY2 g2 b2 _ _ _ _).trans ?_;cases agm s.2.2.1 b.2.2.1 fun u=>(aXz s).contains u.1
  case false=>rfl
  rw[if_pos rfl,Bool.true_and];refine(aY2 b2 g2 _ _ _ _).trans ?_;cases agm b.2.2.1 s.2.2.1 fun u=>(aXz s).contains u.1
  case false=>rfl
  rw[if_pos rfl,Bool.true_and];refine(aY1 g3 b3 _ _ _ _).trans ?_;cases agm s.2.2.2.1 b.2.2.2.1 fun u=>(aXz s).contains u.1
  case false=>rfl
  rw[if_pos rfl,Bool.true_and];exact a2u b3 g3 _ some
end Go.Proofs.ZzM
end
noncomputable section
namespace Go.Proofs.ZzM
open Go Go.Am
def anM (x:List Int) (y:List Int) (l:Lk):List Int:=if gv x l.2.1=Ľ then y else y.set l.1.toNat (min (gv y l.1) (l.2.2+gv x l.2.1))
def aQc (L:List Lk) (N:Nat) (x:List Int):List Int:=L.foldl (anM x) (List.replicate N Ľ)
def exL (L:List Lk) (N:Nat) (to:Int):Nat→List Int
 |0=>(List.replicate N Ľ).set to.toNat 0
 |k+1=>aQc L N (exL L N to k)
def ahM (L:List Lk) (N:Nat) (to:Int) (most:Nat):List (List Int):=(List.range (most+1)).map (exL L N to)
section
variable {L:List Lk} {N:Nat}
theorem aJm (x y:List Int) (l:Lk):(anM x y l).length=y.length:=by unfold anM; split<;>simp
theorem ayN (x:List Int):∀(M:List Lk) (y:List Int),(M.foldl (anM x) y).length=y.length
 |[],y=>rfl
 |l::M,y=>by rw[List.foldl_cons,ayN x M,aJm]
theorem aVm (x:List Int):(aQc L N x).length=N:=by unfold aQc; rw[ayN]; simp
theorem aSo (to:Int) (k:Nat):(exL L N to k).length=N:=by
 cases k with
 |zero=>simp[exL]
 |succ k=>exact aVm _
def Lim (B:Int) (x:List Int):Prop:=∀v:Int,gv x v≠Ľ→-B≤gv x v∧gv x v≤B
theorem gv_out {x:List Int} {v:Int} (h:¬v.toNat<x.length):gv x v=0:=by
 unfold gv;rw[List.getElem?_eq_none (by omega)];rfl
theorem aXp {B:Int} (hB:0≤B):Lim B (List.replicate N Ľ):=by
 intro v hv
 by_cases h:v.toNat<N
 ·exfalso; apply hv;unfold gv;rw[List.getElem?_replicate,if_pos h];rfl
 ·rw[gv_out (by simpa using h)]; omega
theorem aXo {B:Int} {y:List Int} (hy:Lim B y) {u:Int} (hu:0≤u) (hl:u.toNat<y.length) {a:Int} (ha:a≠Ľ→-B≤a∧a≤B):Lim B (y.set u.toNat a):=by
 intro v hv
 by_cases h:v.toNat=u.toNat
 ·have:gv (y.set u.toNat a) v=a:=by
   unfold gv;rw[h,List.getElem?_set_self hl];rfl
  rw[this] at hv ⊢;exact ha hv
 ·have:gv (y.set u.toNat a) v=gv y v:=by
   unfold gv;rw[List.getElem?_set_ne (fun e=>h e.symm)]
  rw[this] at hv ⊢;exact hy v hv
theorem aZV (hS:ņ L N) {B:Int} (hB:0≤B) (hB2:B≤1000000000000000000) {x y:List Int} (hx:Lim B x) (hy:Lim (B+4503599627370496) y) (hl:y.length=N) {l:Lk} (hm:l∈L):Lim (B+4503599627370496) (anM x y l):=by
 unfold anM
 split
 ·exact hy
 ·rename_i hf;have h1:=hS.inr l hm;have h2:=hS.most l hm;have h3:=hx _ hf;refine aXo hy h1.1.1 (by omega) fun ha=>?_
  by_cases h4:gv y l.1=Ľ
  ·rw[h4] at ha ⊢
   have:min Ľ (l.2.2+gv x l.2.1)=l.2.2+gv x l.2.1:=by unfold Ľ; omega
   rw[this]; omega
  ·have:=hy _ h4;omega
theorem aTL (hS:ņ L N) {B:Int} (hB:0≤B) (hB2:B≤1000000000000000000) {x:List Int} (hx:Lim B x):∀(M:List Lk),(∀l∈M,l∈L)→∀y:List Int,y.length=N→Lim (B+4503599627370496) y→Lim (B+4503599627370496) (M.foldl (anM x) y)
 |[],_,y,_,hy=>hy
 |l::M,hM,y,hl,hy=>by
  rw[List.foldl_cons];exact aTL hS hB hB2 hx M (fun m hm=>hM m (by simp[hm])) _ (by rw[aJm,hl]) (aZV hS hB hB2 hx hy hl (hM l (by simp)))
theorem aSb (hS:ņ L N) {to:Int} (ht:0≤to∧to<N):∀k:Nat,k≤200→Lim (k*4503599627370496) (exL L N to k)
 |0,_=>by
  unfold exL;exact aXo (aXp (by omega)) ht.1 (by simp; omega) (fun _=>by omega)
 |k+1,hk=>by
  have:=aTL hS (B:=k*4503599627370496) (by omega) (by omega) (aSb hS ht k (by omega)) L (fun _ h=>h) (List.replicate N Ľ) (by simp) (aXp (by omega));unfold exL aQc
  have e:(((k+1:Nat):Int)*4503599627370496)=(k:Int)*4503599627370496+4503599627370496:=by push_cast; omega
  rw[e];exact this
theorem aP9 {ρ:Type} (hN:N≤1000) (K:List Int→Option ρ) {f:Int×List Int→(Int×List Int→Option ρ)→Option ρ}
 (hf:∀(v:Int×List Int) kk,f v kk=aqe (N:Int) v.1 v.2 (fun u34 u35=>kk (u34,u35)) K):Ì f ((0:Int),List.replicate N (0:Int))=K (List.replicate N Ľ):=by
 refine ñ (List.replicate N (0:Int)) (fun i=>List.replicate i Ľ++List.replicate (N-i) (0:Int)) _ (by simp) (fun i a hi ha kn=>?_) (fun kn=>?_)
 ·rw[hf];dsimp only;unfold aqe;rw[List.length_replicate] at hi
  have hlen:(List.replicate i Ľ++List.replicate (N-i) (0:Int)).length=N:=by simp; omega
  have e1:ilt (i:Int) (N:Int)=true:=decide_eq_true (by omega);rw[Ú e1,show Đ (List.replicate i Ľ++List.replicate (N-i) (0:Int))=(N:Int) by unfold Đ; rw[hlen],Ħ (by omega) (by omega),ae3 (by rw[hlen]; omega),Ø (by omega) (by omega)];congr 2;rw[Int.toNat_natCast];rw[List.set_append_right _ _ (by simp),List.length_replicate,Nat.sub_self];rw[show N-i=(N-(i+1))+1 by omega,List.replicate_succ,List.set_cons_zero,List.replicate_succ'];simp
 ·rw[hf];dsimp only;unfold aqe;rw[List.length_replicate];have e1:ilt (N:Int) (N:Int)=false:=decide_eq_false (by omega);rw[Õ e1];simp
theorem okN (hN:N≤1000) {ρ:Type} (x:Option ρ):ï ((ile (0:Int) (N:Int))&&(ì (Int.toNat (N:Int)))) x=x:=by
 rw[ģ];rw[Int.toNat_natCast,Ù (by omega),Bool.and_true];exact decide_eq_true (by omega)
theorem aXn {ρ:Type} (hS:ņ L N) {B:Int} (hB:0≤B) (hB2:B≤1000000000000000000) {x:List Int} (hx:Lim B x) (hxl:x.length=N) (K:List Int→Option ρ) :
 Ì (fun(v20:(Val (.pair tI (.slice tI)))) kk23=>avz x L (Û L) v20.1 v20.2 (fun u21 u22=>kk23 (u21,u22)) K) ((0:Int),List.replicate N Ľ)=K (aQc L N x):=by
 have hl3:=hS.len;refine ñ L (fun i=>(L.take i).foldl (anM x) (List.replicate N Ľ)) _ rfl (fun i l hi hl kn=>?_) (fun kn=>?_)
 ·try dsimp only
  unfold avz;have hm:=List.mem_of_getElem? hl;have h1:=hS.inr l hm;have h2:=hS.most l hm;rw[Ö hi,Ë hl,akC h1.2.1 (by omega),take_succ hl,List.foldl_append,Ñ hi (by omega)]
  have hlen:((L.take i).foldl (anM x) (List.replicate N Ľ)).length=N:=by rw[ayN]; simp
  generalize (L.take i).foldl (anM x) (List.replicate N Ľ)=y at hlen ⊢
  by_cases hf:gv x l.2.1=Ľ
  ·rw[Õ (by rw[hf]; rfl)];simp only[List.foldl_cons,List.foldl_nil];unfold anM;rw[if_pos hf]
  ·have h3:=hx _ hf;rw[Ú (bne_iff_ne.2 hf),show Đ y=(N:Int) by unfold Đ; rw[hlen],Ħ h1.1.1 h1.1.2,ae3 (by omega),akC h1.2.1 (by omega),Ø (by omega) (by omega),Ħ h1.1.1 h1.1.2,ae3 (by omega),Ñ hi (by omega)];simp only[List.foldl_cons,List.foldl_nil];unfold anM;rw[if_neg hf,apz]
 ·try dsimp only
  unfold avz;rw[ã,List.take_length];rfl
theorem a0e {ρ:Type}:@aLx ρ=@aqe ρ:=rfl
theorem afr (to:Int) (m:Nat):(ahM L N to m).length=m+1:=by simp[ahM]
theorem ayM {to:Int} {m k:Nat} (hk:k≤m):(ahM L N to m)[k]?=some (exL L N to k):=by
 unfold ahM;rw[List.getElem?_map,List.getElem?_range (by omega)];rfl
theorem a0d (hS:ņ L N) {to:Int} (ht:0≤to∧to<N) {most:Nat} (hm:most≤100):apG ((N:Int),L) to (most:Int)=some (ahM L N to most):=by
 have hN:=hS.n60
 unfold apG aD7
 dsimp only;rw[okN (by omega),Int.toNat_natCast];refine(aP9 (by omega) _ (fun v kk=>by rw[ç,List.length_replicate])).trans ?_;rw[show Đ (List.replicate N Ľ)=(N:Int) by simp[Đ],Ħ ht.1 ht.2,ae3 (by simp; omega)];refine ñ (List.replicate most ()) (fun i=>ahM L N to i) _ (by simp[ahM,exL]) (fun i a hi ha kn=>?_) (fun kn=>?_)
 ·try dsimp only
  unfold aBP;rw[List.length_replicate] at hi;have e1:ilt (i:Int) (most:Int)=true:=decide_eq_true (by omega);rw[Ú e1,ç,afr]
  have e2:(((i+1:Nat):Int)-1)=(i:Int):=by omega
  rw[e2,Ø (by omega) (by omega),show Đ (ahM L N to i)=((i+1:Nat):Int) by unfold Đ; rw[afr],Ħ (by omega) (by omega),Int.toNat_natCast,afA (ayM (Nat.le_refl i)),okN (by omega),Int.toNat_natCast];rw[a0e];refine(aP9 (by omega) _ (fun v kk=>by rw[ç,List.length_replicate])).trans ?_;refine(aXn hS (B:=i*4503599627370496) (by omega) (by omega) (aSb hS ht i (by omega)) (aSo _ _) _).trans ?_;rw[ģ (Ù (by simp only[afr,List.length_singleton]; omega)),Ø (by omega) (by omega)];congr 2;unfold ahM;rw[List.range_succ (n:=i+1),List.map_append];rfl
 ·try dsimp only
  unfold aBP;rw[List.length_replicate];have e1:ilt (most:Int) (most:Int)=false:=decide_eq_false (by omega);rw[Õ e1]
def aGj (L:List Lk) (x:List Int) (good:Int→Bool) (u sum:Int):Option Nat:=L.findIdx? fun l=>l.1==u&&(decide (gv x l.2.1≠Ľ)&&good (sum+l.2.2+gv x l.2.1))
def akE (L:List Lk) (rest:Nat→List Int) (good:Int→Bool):Nat→Int→Int→List Int→List Int
 |0,_,_,out=>out
 |k+1,u,sum,out=>match aGj L (rest k) good u sum with
  |some i=>akE L rest good k (L[i]?.getD (0,0,0)).2.1 (sum+(L[i]?.getD (0,0,0)).2.2) (out++[(i:Int)])
  |none=>akE L rest good k u sum out
def folL {ρ:Type} (good:Int→Bool) (c0:Int) (c1:List (List Int)) (c2:List Lk) (c3:Int) (v0:Int) (v1:Int) (v2:Int) (v3:List Int) (kn:Int→Int→Int→List Int→Option ρ) (k0:Int×Int×List Int→Option ρ):Option ρ :=
 ifb (ilt v2 c3) (ă c2 v2 fun e7=>ifb (ieq e7.1 v0) (ck (c0-(1:Int)) fun n8=>ă c1 n8 fun e9=>ă e9 e7.2.1 fun e10=>ifb (ine e10 (1152921504606846976:Int)) (ck (v1+e7.2.2) fun n11=>ck (c0-(1:Int)) fun n12=>ă c1 n12 fun e13=>ă e13 e7.2.1 fun e14=>ck (n11+e14) fun n15=>ifb (good n15) (ï (ì ((List.length v3)+(List.length ([v2])))) (ck (v1+e7.2.2) fun n16=>k0 (e7.2.1,n16,(v3++([v2]))))) (ck (v2+(1:Int)) fun n17=>kn v0 v1 n17 v3)) (ck (v2+(1:Int)) fun n18=>kn v0 v1 n18 v3)) (ck (v2+(1:Int)) fun n19=>kn v0 v1 n19 v3)) (k0 (v0,v1,v3))
theorem a11 {ρ:Type} (hS:ņ L N) (good:Int→Bool) {rest:List (List Int)} {k:Nat} {x:List Int} (hr:rest[k]?=some x) (hk:k≤100) (hx:Lim 1000000000000000000 x) (hxl:x.length=N) {u sum:Int} (hs : -1000000000000000000≤sum∧sum≤1000000000000000000) {out:List Int} (ho:out.length≤1000)
 (K:Int×Int×List Int→Option ρ):Ì (fun(v:Int×Int×Int×List Int) kk=>folL good ((k+1:Nat):Int) rest L (Û L) v.1 v.2.1 v.2.2.1 v.2.2.2 (fun a b c d=>kk (a,b,c,d)) K) (u,sum,(0:Int),out) =
  match aGj L x good u sum with|some i=>K ((L[i]?.getD (0,0,0)).2.1,sum+(L[i]?.getD (0,0,0)).2.2,out++[(i:Int)])|none=>K (u,sum,out):=by
 have hl3:=hS.len;refine ł (fun v=>∃i:Nat,i≤L.length∧v=(u,sum,(i:Int),out)∧∀j l,j<i→L[j]?=some l→(l.1==u&&(decide (gv x l.2.1≠Ľ)&&good (sum+l.2.2+gv x l.2.1)))=false) (fun v=>L.length-v.2.2.1.toNat) ?_ ⟨0,by omega,rfl,fun j l h=>by omega⟩;rintro v ⟨i,hi,rfl,hp⟩
 have e0:(((k+1:Nat):Int)-1)=(k:Int):=by omega
 rcases Nat.lt_or_ge i L.length with h2|h2
 ·have hl:L[i]?=some L[i]:=List.getElem?_eq_getElem h2;generalize L[i]=l at hl;have hm:=List.mem_of_getElem? hl;have h1:=hS.inr l hm;have h4:=hS.most l hm
  have hstep:(l.1==u&&(decide (gv x l.2.1≠Ľ)&&good (sum+l.2.2+gv x l.2.1)))=false→∃y,(∃i:Nat,i≤L.length∧y=(u,sum,(i:Int),out)∧∀j l,j<i→L[j]?=some l→(l.1==u&&(decide (gv x l.2.1≠Ľ)&&good (sum+l.2.2+gv x l.2.1)))=false)∧(L.length-y.2.2.1.toNat<L.length-((u,sum,(i:Int),out):Int×Int×Int×List Int).2.2.1.toNat)∧y=(u,sum,(i:Int)+1,out):=fun hf =>
   ⟨_,⟨i+1,h2,by rw[show((i+1:Nat):Int)=(i:Int)+1 by push_cast; rfl],fun j m hj hm=>by
    rcases Nat.lt_succ_iff_lt_or_eq.1 hj with h|rfl
    ·exact hp j m h hm
    ·rw[hl] at hm; cases hm; exact hf⟩,by simp; omega,rfl⟩
  by_cases hf:(l.1==u&&(decide (gv x l.2.1≠Ľ)&&good (sum+l.2.2+gv x l.2.1)))=true
  ·refine .inl fun kn=>?_
   have hfi:aGj L x good u sum=some i:=by
    unfold aGj;rw[List.findIdx?_eq_some_iff_getElem];obtain⟨hh,rfl⟩:=List.getElem?_eq_some_iff.1 hl;exact⟨h2,hf,fun j hj=>by have:=hp j _ hj (List.getElem?_eq_getElem (by omega)); rw[this]; simp⟩
   rw[hfi];simp only[Bool.and_eq_true,beq_iff_eq,decide_eq_true_eq] at hf;have h5:=hx _ hf.2.1;dsimp only;unfold folL
   rw[Ö h2,Ë hl,Ú (by simp[hf.1]),e0,Ø (by omega) (by omega),Ë hr,akC h1.2.1 (by omega),Ú (bne_iff_ne.2 hf.2.1),Ø (by omega) (by omega),Ø (by omega) (by omega),Ë hr,akC h1.2.1 (by omega),Ø (by omega) (by omega),Ú hf.2.2,
    ģ (Ù (by simp; omega)),Ø (by omega) (by omega),hl]
   rfl
  ·have hf':=Bool.not_eq_true _▸hf;obtain⟨y,hy1,hy2,rfl⟩:=hstep hf';refine .inr ⟨_,hy1,hy2,fun kn=>?_⟩;dsimp only;unfold folL;rw[Ö h2,Ë hl,Ñ h2 (by omega)]
   by_cases g1:l.1=u
   ·rw[Ú (by simp[g1]),e0,Ø (by omega) (by omega),Ë hr,akC h1.2.1 (by omega)]
    by_cases g2:gv x l.2.1=Ľ
    ·rw[Õ (by rw[g2]; rfl)]
    ·have h5:=hx _ g2
     have g3:good (sum+l.2.2+gv x l.2.1)=false:=by simpa[g1,g2] using hf'
     rw[Ú (bne_iff_ne.2 g2),Ø (by omega) (by omega),Ø (by omega) (by omega),Ë hr,akC h1.2.1 (by omega),Ø (by omega) (by omega),Õ g3]
   ·rw[Õ (by simpa using g1)]
 ·refine .inl fun kn=>?_
  obtain rfl:i=L.length:=by omega
  have hfi:aGj L x good u sum=none:=by
   unfold aGj;rw[List.findIdx?_eq_none_iff];intro l hl;obtain⟨j,hj,rfl⟩:=List.mem_iff_getElem.1 hl;exact hp j _ hj (List.getElem?_eq_getElem hj)
  rw[hfi];dsimp only;unfold folL;rw[ã]
def a10 {ρ:Type} (good:Int→Bool) (c0:List (List Int)) (c6:List Lk) (v0:Int) (v1:Int) (v2:Int) (v3:List Int) (kn:Int→Int→Int→List Int→Option ρ) (k0:List Int→Option ρ):Option ρ :=
 ifb (igt v1 (0:Int)) (Ì (fun(v22:Int×Int×Int×List Int) kk27=>folL good v1 c0 c6 (Û c6) v22.1 v22.2.1 v22.2.2.1 v22.2.2.2 (fun u23 u24 u25 u26=>kk27 (u23,u24,u25,u26)) (fun z20=>ck (v1-(1:Int)) fun n21=>kn z20.1 n21 z20.2.1 z20.2.2)) (v0,v2,(0:Int),v3)) (k0 v3)
theorem a0w {ρ:Type} (c0:List (List Int)) (c4:Int) (c6:List Lk):@ajV ρ c0 c4 c6=a10 (fun n=>ieq n c4) c0 c6:=rfl
theorem a1Z {ρ:Type} (hS:ņ L N) (good:Int→Bool) {rest:List (List Int)} {R:Nat→List Int} {k0:Nat} (hk:k0≤100) (hr:∀k,k<k0→rest[k]?=some (R k)) (hx:∀k,k<k0→Lim 900000000000000000 (R k)∧(R k).length=N) (u:Int) (K:List Int→Option ρ) :
 Ì (fun(v:Int×Int×Int×List Int) kk=>a10 good rest L v.1 v.2.1 v.2.2.1 v.2.2.2 (fun a b c d=>kk (a,b,c,d)) K) (u,(k0:Int),(0:Int),[])=K (akE L R good k0 u 0 []):=by
 have key:=als (f:=fun(v:Int×Int×Int×List Int) kk=>a10 good rest L v.1 v.2.1 v.2.2.1 v.2.2.2 (fun a b c d=>kk (a,b,c,d)) K) (F:=fun v=>K (akE L R good v.2.1.toNat v.1 v.2.2.1 v.2.2.2))
  (fun v=>∃k:Nat,v.2.1=k∧k≤k0∧(-(((k0-k:Nat):Int)*4503599627370496)≤v.2.2.1∧v.2.2.1≤((k0-k:Nat):Int)*4503599627370496)∧v.2.2.2.length≤k0-k) (fun v=>v.2.1.toNat) (fun v hv kn hk=>?_) (x:=(u,(k0:Int),0,[])) ⟨k0,rfl,Nat.le_refl _,by simp,by simp⟩
 ·rw[key]; simp
 ·obtain⟨u,k',sum,out⟩:=v;obtain⟨k,e,h1,h2,h3⟩:=hv;dsimp only at e h2 h3 hk ⊢;subst e;rw[Int.toNat_natCast] at hk ⊢;unfold a10
  cases k with
  |zero =>
   rw[Õ (by rfl)];rfl
  |succ k =>
   rw[Ú (decide_eq_true (by omega))];have hh:=hx k (by omega)
   have hlim:Lim 1000000000000000000 (R k):=fun v hv=>by have:=hh.1 v hv; omega
   refine(a11 hS good (hr k (by omega)) (by omega) hlim hh.2 (by omega) (by omega) _).trans ?_;unfold akE
   have e0:(((k+1:Nat):Int)-1)=(k:Int):=by omega
   cases hn:aGj L (R k) good u sum with
   |none =>
    dsimp only;rw[e0,Ø (by omega) (by omega),hk _ ⟨k,rfl,by omega,by dsimp only; omega,by dsimp only; omega⟩ (by simp)];simp
   |some i =>
    have hi:i<L.length:=by
     unfold aGj at hn;exact(List.findIdx?_eq_some_iff_getElem.1 hn).1
    have hl:L[i]?=some L[i]:=List.getElem?_eq_getElem hi;have h4:=hS.most L[i] (List.getElem_mem _);dsimp only;rw[hl];simp only[Option.getD_some];rw[e0,Ø (by omega) (by omega),hk _ ⟨k,rfl,by omega,by dsimp only; omega,by simp; omega⟩ (by simp)];simp
def aGa (L:List Lk) (N:Nat) (u v:Int):List Int×Int :=
 if (adp L N u v).2≠0 then([],(adp L N u v).2) else
 match (ahM L N v N).findIdx? (fun x=>gv x u==(adp L N u v).1) with
 |some k=>(akE L (exL L N v) (fun n=>ieq n (adp L N u v).1) k u 0 [],0)
 |none=>([],0)
theorem aUx (hS:ņ L N) {u v:Int} (hu:0≤u∧u<N) (hv:0≤v∧v<N):apJ ((N:Int),L) u v=some (aGa L N u v):=by
 have hN:=hS.n60;unfold apJ aEt aGa;rw[aB7 hS hu hv,À]
 by_cases h:(adp L N u v).2=0
 ·rw[Õ (by rw[h]; rfl),if_neg (by simp[h]),a0d hS hv (by omega),À];rw[a0w]
  let k0:Int→Option (List Int×Int):=fun j=>Ì (fun(v29:Int×Int×Int×List Int) kk34=>a10 (fun n=>ieq n (adp L N u v).1) (ahM L N v N) L v29.1 v29.2.1 v29.2.2.1 v29.2.2.2 (fun u30 u31 u32 u33=>kk34 (u30,u31,u32,u33)) (fun z28=>some ((z28,(0:Int)):List Int×Int))) (u,j,(0:Int),[])
  refine(adl (ahM L N v N) (fun x=>gv x u==(adp L N u v).1) k0 (k0 (-1)) (fun i x hi hx kn=>?_) (fun kn=>?_)).trans ?_
  rotate_left
  ·try dsimp only
   unfold ajW;rw[ã]
  ·have hex:∀k,k<N+1→(ahM L N v N)[k]?=some (exL L N v k):=fun k hk=>ayM (by omega)
   have hlim:∀k,k<N+1→Lim 900000000000000000 (exL L N v k)∧(exL L N v k).length=N:=fun k hk=>⟨fun w hw=>by
    have:=aSb hS hv k (by omega) w hw; omega,aSo _ _⟩
   cases hf:(ahM L N v N).findIdx? (fun x=>gv x u==(adp L N u v).1) with
   |none =>
    have:=als (f:=fun(v29:Int×Int×Int×List Int) kk34=>a10 (fun n=>ieq n (adp L N u v).1) (ahM L N v N) L v29.1 v29.2.1 v29.2.2.1 v29.2.2.2 (fun u30 u31 u32 u33=>kk34 (u30,u31,u32,u33)) (fun z28=>some ((z28,(0:Int)):List Int×Int))) (F:=fun _=>some (([],0):List Int×Int)) (fun v=>v.2.1 = -1∧v.2.2.2=[]) (fun _=>0) (fun x hx kn hk=>by
     unfold a10;rw[hx.1,hx.2]
     rfl) (x:=(u,(-1:Int),(0:Int),[])) ⟨rfl,rfl⟩
    exact this
   |some k =>
    have hk:=(List.findIdx?_eq_some_iff_getElem.1 hf).1;rw[afr] at hk;exact a1Z hS _ (R:=exL L N v) (by omega) (fun j hj=>hex j (by omega)) (fun j hj=>hlim j (by omega)) u (fun z=>some ((z,(0:Int)):List Int×Int))
  ·try dsimp only
   unfold ajW
   have hxl:x.length=N:=by
    have hi':=hi;rw[afr] at hi';rw[ayM (by omega)] at hx;cases hx;exact aSo _ _
   rw[afr] at hi;rw[ç,afr,Ú (decide_eq_true (by omega)),Ë hx,akC hu.1 (by omega),Ø (by omega) (by omega),Ĥ]
 ·rw[Ú (bne_iff_ne.2 h),if_pos h]
end
end Go.Proofs.ZzM
end
noncomputable section
namespace Go.Proofs.ZzM
open Go Go.Am
def aWm (f:Int→Int→Int) (z:Int) (l:List Int) (d:Int):Int:=match l with|[]=>z|x::_=>f x d
def awM (f:Int→Int→Int) (z:Int) (c:Cmp):Int:=aWm f z (ë c.2.2.1 c.2.2.2.1) c.2.1-aWm f z (ë c.2.2.2.1 c.2.2.1) c.2.1
structure a2x (b:â) (f:Int→Int→Int) (z:Int) (g:î):Prop where
 hi:f g.1 g.2.1≤z+(g.2.2.1+g.2.2.2.1.2)
 lo:z+(g.2.2.1+g.2.2.2.1.1)≤f g.1 g.2.1
 down:∀d e,g.2.1≤d→d≤e→f g.1 e≤f g.1 d
 loss:∀d e,g.2.1≤d→d≤e→f g.1 d≤f g.1 e+adU b g d e
structure aQU (b:â) (f:Int→Int→Int) (z:Int):Prop where
 gauge:∀g∈b.2.1,a2x b f z g
 cmp:∀c∈b.2.2.2.2.1,(Ξ b c).1≤awM f z c∧awM f z c≤(Ξ b c).2
theorem aQa {b:â} (h:ę b) {p:Int→Int} (hg:∀g∈b.2.1,ajc b p g):∃f:Int→Int→Int,(∀g∈b.2.1,a2x b f (p 0) g)∧∀g∈b.2.1,∀d∈á b g,f g.1 d=p (Δ b g.1 d):=by
 let f:Int→Int→Int:=fun id d=>match ū b id with|some g=>fill b p g d|none=>0
 have hfv:∀g∈b.2.1,∀d,f g.1 d=fill b p g d:=fun g hgm d=>by
  show(match ū b g.1 with|some g=>fill b p g d|none=>0)=_;rw[amV h.ids hgm]
 refine⟨f,fun g hgm=>?_,fun g hgm d hd=>by rw[hfv g hgm]; exact aBW h hgm (hg g hgm) hd⟩;have gf:=hg g hgm
 have e0:f g.1 g.2.1=p (Δ b g.1 g.2.1):=by rw[hfv g hgm]; exact aBW h hgm gf (aeZ g)
 refine⟨by rw[e0]; exact gf.hi,by rw[e0]; exact gf.lo,fun d e h0 hde=>?_,fun d e h0 hde=>?_⟩
 ·rw[hfv g hgm,hfv g hgm];exact(aws h hgm gf h0 hde).1
 ·rw[hfv g hgm,hfv g hgm];exact(aws h hgm gf h0 hde).2
theorem aNw {b:â} {f:Int→Int→Int} {p:Int→Int} (hm:∀g∈b.2.1,∀d∈á b g,f g.1 d=p (Δ b g.1 d)) {l:List Int} {day:Int} (hl:∀x∈l,∃g∈b.2.1,g.1=x∧day∈á b g):p (aBx b l day)=aWm f (p 0) l day:=by
 cases l with
 |nil=>rfl
 |cons x t =>
  obtain⟨g,q1,rfl,q3⟩:=hl x (by simp);exact(hm g q1 day q3).symm
theorem aFB {b:â} {f:Int→Int→Int} {p:Int→Int} (hm:∀g∈b.2.1,∀d∈á b g,f g.1 d=p (Δ b g.1 d)) {c:Cmp}
 (hl:∀x,x∈ë c.2.2.1 c.2.2.2.1∨x∈ë c.2.2.2.1 c.2.2.1→∃g∈b.2.1,g.1=x∧c.2.1∈á b g):p (cx b c)-p (cy b c)=awM f (p 0) c:=by
 unfold awM;rw[ayR,ayQ,aNw hm (fun x hx=>hl x (.inl hx)),aNw hm (fun x hx=>hl x (.inr hx))]
theorem aIi {b:â} (h:ę b) (f:Int→Int→Int) (z:Int) {l:List Int} {day:Int} (hl:∀x∈l,∃g∈b.2.1,g.1=x∧day∈á b g):aIj b f z (aBx b l day)=aWm f z l day:=by
 rw[ayZ h f z hl];unfold aWm
 cases l<;>rfl
theorem aCo {b:â} (h:ę b) {f:Int→Int→Int} {z:Int} {c:Cmp} (hl:∀x,x∈ë c.2.2.1 c.2.2.2.1∨x∈ë c.2.2.2.1 c.2.2.1→∃g∈b.2.1,g.1=x∧c.2.1∈á b g):aIj b f z (cx b c)-aIj b f z (cy b c)=awM f z c:=by
 unfold awM;rw[ayR,ayQ,aIi h f z (fun x hx=>hl x (.inl hx)),aIi h f z (fun x hx=>hl x (.inr hx))]
theorem aIh {b:â} (h:ę b) {f:Int→Int→Int} {z:Int} {g:î} (hg:g∈b.2.1) (hh:a2x b f z g):ajc b (aIj b f z) g:=by
 have q:∀d∈á b g,aIj b f z (Δ b g.1 d)=f g.1 d:=fun d hd=>atT h f z hg hd;have e0:=q g.2.1 (aeZ g);refine⟨?_,?_,fun d e hd he hde=>?_,fun d e hd he hde=>?_⟩
 ·rw[e0,aiz]; exact hh.hi
 ·rw[e0,aiz]; exact hh.lo
 ·rw[q d hd,q e he]; exact hh.down d e (h.day hg hd).1 hde
 ·rw[q d hd,q e he]; exact hh.loss d e (h.day hg hd).1 hde
section
variable {b:â} {c:Cmp}
theorem aZD (h:ę b) {p:Int→Int} (hp:Pot (ä b) p):∃f,aQU b f (p 0)∧∀g∈b.2.1,∀d∈á b g,f g.1 d=p (Δ b g.1 d):=by
 obtain⟨hg,hc⟩:=(aJT h).1 hp;obtain⟨f,hf,hm⟩:=aQa h hg;refine⟨f,⟨hf,fun c hcm=>?_⟩,hm⟩;have:=aFB hm (c:=c) (fun x hx=>ah4 h hcm hx);have:=hc c hcm;omega
theorem aZ5 (h:ę b) {f:Int→Int→Int} {z:Int} (hh:aQU b f z):Pot (ä b) (aIj b f z):=by
 refine(aJT h).2 ⟨fun g hg=>aIh h hg (hh.gauge g hg),fun c hc=>?_⟩;have:=aCo (f:=f) (z:=z) h (c:=c) (fun x hx=>ah4 h hc hx);have:=hh.cmp c hc;omega
theorem aT4 (h:ę b) {d:Cmp} (hd:d∈b.2.2.2.2.1):∀x,x∈ë d.2.2.1 d.2.2.2.1∨x∈ë d.2.2.2.1 d.2.2.1→∃g∈(ð b c).2.1,g.1=x∧d.2.1∈á (ð b c) g:=by
 intro x hx;obtain⟨g,q1,q2,q3⟩:=ah4 h hd hx;exact⟨g,q1,q2,alN q3⟩
theorem aXB (h:ę b) (h':ę (ð b c)) {p:Int→Int} (hp:Pot (þ (ð b c)) p):∃f,aQU b f (p 0)∧p (cx (ð b c) c)-p (cy (ð b c) c)=awM f (p 0) c:=by
 obtain⟨hg,hc⟩:=(aBV h').1 hp;obtain⟨f,hf,hm⟩:=aQa h' hg;refine⟨f,⟨fun g hgm=>?_,fun d hd=>?_⟩,aFB hm fun x hx=>ah4 h' ap8 hx⟩
 ·have:=hf g hgm;exact⟨this.hi,this.lo,this.down,this.loss⟩
 ·have:=aFB hm (c:=d) (aT4 h hd);have:=hc d hd;omega
theorem aXA (h:ę b) (h':ę (ð b c)) {f:Int→Int→Int} {z:Int} (hh:aQU b f z):Pot (þ (ð b c)) (aIj (ð b c) f z)∧aIj (ð b c) f z (cx (ð b c) c)-aIj (ð b c) f z (cy (ð b c) c)=awM f z c:=by
 refine⟨(aBV h').2 ⟨fun g hg=>aIh h' hg ?_,fun d hd=>?_⟩,aCo h' fun x hx=>ah4 h' ap8 hx⟩
 ·have:=hh.gauge g hg;exact⟨this.hi,this.lo,this.down,this.loss⟩
 ·have:=aCo (f:=f) (z:=z) h' (c:=d) (aT4 h hd);have:=hh.cmp d hd;omega
theorem aOf (h:ę b):Ĩ (ä b) ((Î b).length+1)=true↔∃f z,aQU b f z:=by
 have:=h.sys.n60;rw[Ř h.sys.links (by omega)];constructor
 ·rintro⟨p,hp⟩;obtain⟨f,hf,_⟩:=aZD h hp;exact⟨f,_,hf⟩
 ·rintro⟨f,z,hh⟩;exact⟨_,aZ5 h hh⟩
theorem d_max (h:ę b) (h':ę (ð b c)) {f:Int→Int→Int} {z:Int} (hh:aQU b f z):dLo b c≤awM f z c∧awM f z c≤dHi b c:=by
 have ho:Ĩ (þ (ð b c)) ((Î (ð b c)).length+1)=true:=by rw[aiU h h']; exact(aOf h).2 ⟨f,z,hh⟩
 obtain⟨hp,hd⟩:=aXA h h' hh;have a1:=aME (aet h') (aeM h') ho (asb h') (asa h') hp;have a2:=aME (aet h') (aeM h') ho (asa h') (asb h') hp;unfold dLo dHi;omega
theorem d_all (h:ę b) (h':ę (ð b c)) (ho:Ĩ (ä b) ((Î b).length+1)=true) {t:Int} (h1:dLo b c≤t) (h2:t≤dHi b c):∃f z,aQU b f z∧awM f z c=t:=by
 rw[←aiU h h'] at ho;obtain⟨p,hp,hd⟩:=a17 (aet h') (aeM h') ho (asb h') (asa h') h1 h2;obtain⟨f,hf,he⟩:=aXB h h' hp;exact⟨f,_,hf,by rw[←he]; exact hd⟩
theorem a2a (h:ę b) (h':ę (ð b c)) (ho:Ĩ (ä b) ((Î b).length+1)=true):dLo b c≤dHi b c:=by
 rw[←aiU h h'] at ho;exact aQe (aet h') (aeM h') ho (asb h') (asa h')
structure Pred (b:â) (c:Cmp) (s:Int×Int):Prop where
 good:ę b
 good2:ę (ð b (Ê c))
 order:aSa b c≤ats b c
 has:∃f z,aQU b f z
 ends:s.1-aSa b c≤s.2-ats b c
 bd : -9007199254740992≤s.1-aSa b c∧s.2-ats b c≤9007199254740992
 all:∀f z,aQU b f z→s.1-aSa b c≤awM f z c∧awM f z c≤s.2-ats b c
 each:∀t,s.1-aSa b c≤t→t≤s.2-ats b c→∃f z,aQU b f z∧awM f z c=t
theorem aNJ (hp:(Ļ b c).2=0):Pred b c (Ļ b c).1:=by
 obtain⟨h,h'⟩:=aif hp;rw[aF8 h h'] at hp ⊢
 by_cases ho:Ĩ (ä b) ((Î b).length+1)=true
 ·rw[if_pos ho] at hp ⊢;obtain⟨h1,h2⟩:=aQ3 hp;rw[h2];have e1:aSa b (Ê c)=aSa b c:=rfl;have e2:ats b (Ê c)=ats b c:=rfl;rw[e1,e2] at *
  have s1:dLo b (Ê c)+aSa b c-aSa b c=dLo b (Ê c):=by omega
  have s2:dHi b (Ê c)+ats b c-ats b c=dHi b (Ê c):=by omega
  refine⟨h,h',h1,(aOf h).1 ho,?_,?_,fun f z hh=>?_,fun t t1 t2=>?_⟩
  ·simp only;rw[s1,s2];exact a2a h h' ho
  ·simp only;rw[s1,s2];rw[←aiU h h'] at ho;have a1:=aQf (aet h') (aeM h') ho (asb h') (asa h');have a2:=aQf (aet h') (aeM h') ho (asa h') (asb h');unfold dLo dHi;omega
  ·simp only;rw[s1,s2];exact d_max (c:=Ê c) h h' hh
  ·simp only at t1 t2;rw[s1] at t1;rw[s2] at t2;exact d_all (c:=Ê c) h h' ho t1 t2
 ·rw[if_neg ho] at hp;simp at hp
end
end Go.Proofs.ZzM
end
noncomputable section
namespace Go.Proofs.ZzM
open Go Go.Am
theorem aJH {b:â} (h:ę b):(ŝ b).length=(ä b).length:=by
 have g0:∀i,((b.2.1.take i).mapIdx (ø b)).flatten.length=((b.2.1.take i).flatMap (û b)).length:=by
  intro i
  induction i with
  |zero=>simp
  |succ i ih =>
   rcases Nat.lt_or_ge i b.2.1.length with hi|hi
   ·have hg:b.2.1[i]?=some b.2.1[i]:=List.getElem?_eq_getElem hi;rw[adD _ hg,take_succ hg,List.flatMap_append,List.flatten_append,List.length_append,List.length_append,ih];congr 1;unfold ø û;simp only[List.flatMap_cons,List.flatMap_nil,List.append_nil,List.flatten_cons,List.flatten_nil,List.length_append];rw[ų _ _ (fun _=>rfl),ų _ _ (fun _=>rfl)];rfl
   ·rw[List.take_of_length_le (by omega)] at ih ⊢;exact ih
 have c0:=aJv (b:=b) b.2.2.2.2.1.length (Nat.le_refl _);have g1:=g0 b.2.1.length;rw[List.take_length] at c0 g1;unfold ŝ ä;rw[List.length_append,List.length_append,g1,c0.1,c0.2]
theorem aPX {b:â}:∀s∈(b.2.1.mapIdx (ø b)).flatten,(s.1=1∨s.1=2)∧0≤s.2∧s.2<b.2.1.length:=by
 intro s hs;obtain⟨l,hl,hm⟩:=List.mem_flatten.1 hs;obtain⟨i,hi,rfl⟩:=List.mem_iff_getElem.1 hl;rw[List.length_mapIdx] at hi;rw[List.getElem_mapIdx] at hm;unfold ø at hm;rcases List.mem_append.1 hm with h|h
 ·simp at h; subst h; exact⟨.inl rfl,by dsimp only; omega,by dsimp only; omega⟩
 ·obtain⟨_,_,h⟩:=List.mem_flatMap.1 h;simp at h; subst h; exact⟨.inr rfl,by dsimp only; omega,by dsimp only; omega⟩
theorem aQk {l:List Cmp}:∀s∈(l.mapIdx fun i (_:Cmp)=>[((3:Int),(i:Int)),((3:Int),(i:Int))]).flatten,s.1=3∧0≤s.2∧s.2<l.length:=by
 intro s hs;obtain⟨m,hl,hm⟩:=List.mem_flatten.1 hs;obtain⟨i,hi,rfl⟩:=List.mem_iff_getElem.1 hl;rw[List.length_mapIdx] at hi;rw[List.getElem_mapIdx] at hm;simp at hm; subst hm;exact⟨rfl,by dsimp only; omega,by dsimp only; omega⟩
theorem aZP (b:â) (c:Cmp):∃S:List (Int×Int),ŝ (ð b c)=S++[(3,(b.2.2.2.2.1.length:Int)),(3,(b.2.2.2.2.1.length:Int))]∧∀s∈S,¬(s.1=3∧s.2=(b.2.2.2.2.1.length:Int)):=by
 refine⟨((ð b c).2.1.mapIdx (ø (ð b c))).flatten++(b.2.2.2.2.1.mapIdx fun i (_:Cmp)=>[((3:Int),(i:Int)),((3:Int),(i:Int))]).flatten,?_,fun s hs=>?_⟩
 ·unfold ŝ;rw[show(ð b c).2.2.2.2.1=b.2.2.2.2.1++[c] from rfl,List.mapIdx_append,List.flatten_append,List.append_assoc];simp
 ·rcases List.mem_append.1 hs with h|h
  ·have:=aPX s h; omega
  ·have:=aQk s h; omega
theorem aI3 (b:â) (c:Cmp) (h:ę (ð b c)):ä (ð b c)=þ (ð b c)++[(cy (ð b c) c,cx (ð b c) c,(Ξ (ð b c) c).2),(cx (ð b c) c,cy (ð b c) c,-(Ξ (ð b c) c).1)]:=by
 rw[aSi];unfold ä;rw[show(ð b c).2.2.2.2.1=b.2.2.2.2.1++[c] from rfl,List.flatMap_append,List.append_assoc];simp[ć]
def a1a (b:â) (c:Cmp) (s t:Int):Int:=dst (þ (ð b c)) ((Î (ð b c)).length+1) s t
abbrev End:Type:=Int×Int×Int
abbrev ay2:Type:=(Int×Int)×End×End
def endP (b:â) (c:Cmp) (s t:Int):End :=
 (a1a b c s t,a1a b c s (cy (ð b c) c)+(Ξ b c).2+a1a b c (cx (ð b c) c) t,a1a b c s (cx (ð b c) c)-(Ξ b c).1+a1a b c (cy (ð b c) c) t)
def worth0:ay2:=((0,0),(0,0,0),(0,0,0))
def aNd (b:â) (n:Int×Int) (c:Cmp):ay2 :=
 ((Ļ b c).1,endP b (Ê c) 0 (amT (ð b (Ê c)) n.1 n.2),endP b (Ê c) (amT (ð b (Ê c)) n.1 n.2) 0)
def aMp (b:â) (n:Int×Int) (c:Cmp):ay2×Int:=if (Ļ b c).2≠0 then(worth0,(Ļ b c).2) else(aNd b n c,0)
theorem aze {b:â} {c:Cmp} (h:(Ļ b c).2=0):Ĩ (ä b) ((Î b).length+1)=true:=by
 obtain⟨g1,g2⟩:=aif h;rw[aF8 g1 g2] at h
 by_cases ho:Ĩ (ä b) ((Î b).length+1)=true
 ·exact ho
 ·rw[if_neg ho] at h; cases h
section
variable {b:â} {c:Cmp} (h:ę b) (h':ę (ð b c)) (ho:Ĩ (ä b) ((Î b).length+1)=true)
include h h' ho
theorem akD {s t:Int} (hs:0≤s∧s<((Î (ð b c)).length+1:Nat)) (ht:0≤t∧t<((Î (ð b c)).length+1:Nat)) : -9007199254740992≤a1a b c s t∧a1a b c s t≤9007199254740992 :=
 aQf (aet h') (aeM h') (by rw[aiU h h']; exact ho) hs ht
theorem alw (B:â) {s t:Int} (hs:0≤s∧s<((Î (ð b c)).length+1:Nat)) (ht:0≤t∧t<((Î (ð b c)).length+1:Nat)):Ċ (B,(((Î (ð b c)).length:Int)+1,þ (ð b c))) t s=some (a1a b c s t):=by
 rw[show(((Î (ð b c)).length:Int)+1)=(((Î (ð b c)).length+1:Nat):Int) by push_cast; rfl,aQz (aet h') ht hs,aqL (aet h') (aeM h') hs ht,if_pos (by rw[aiU h h']; exact ho)];rfl
theorem aWr:(-4503599627370496≤(Ξ b c).1∧(Ξ b c).1≤4503599627370496)∧(-4503599627370496≤(Ξ b c).2∧(Ξ b c).2≤4503599627370496):=by
 have hs:=h'.sys;have e:=aI3 b c h';have m1:=hs.most (cy (ð b c) c,cx (ð b c) c,(Ξ (ð b c) c).2) (by rw[e]; simp);have m2:=hs.most (cx (ð b c) c,cy (ð b c) c,-(Ξ (ð b c) c).1) (by rw[e]; simp);have e2:Ξ (ð b c) c=Ξ b c:=rfl;rw[e2] at m1 m2;dsimp only at m1 m2;omega
theorem aT1 (B:â) {s t:Int} (hs:0≤s∧s<((Î (ð b c)).length+1:Nat)) (ht:0≤t∧t<((Î (ð b c)).length+1:Nat)) :
 ahl t s (B,(((Î (ð b c)).length:Int)+1,þ (ð b c))) (cy (ð b c) c) (Ξ b c) (cx (ð b c) c)=some (endP b c s t):=by
 have hx:=asb h';have hy:=asa h';have b1:=akD h h' ho hs ht;have b2:=akD h h' ho hs hy;have b3:=akD h h' ho hx ht;have b4:=akD h h' ho hs hx;have b5:=akD h h' ho hy ht;have b6:=aWr h h' ho;unfold ahl aoS;rw[alw h h' ho B hs ht,À,alw h h' ho B hs hy,À,Ø (by omega) (by omega),alw h h' ho B hx ht,À,Ø (by omega) (by omega),alw h h' ho B hs hx,À,Ø (by omega) (by omega),alw h h' ho B hy ht,À,Ø (by omega) (by omega)];rfl
end
theorem aNL {B:â} (h:ę B) (hn:∀g∈B.2.1,I64 g.2.2.2.2.1.1) (s:Sys) (l:List Int) (c:Cmp):ahm l (B,s) c=some (atP (Î B) l c.2.1):=by
 unfold ahm aoT
 cases l with
 |nil=>rw[ç]; rfl
 |cons x t =>
  rw[ç,Õ (beq_eq_false_iff_ne.2 (by simp; omega)),show(0:Int)=((0:Nat):Int) from rfl,Ë (show(x::t)[0]?=some x from rfl),aF1 h hn,À];rfl
theorem aXH {ρ:Type} {b:â} {c:Cmp} (h:ę (ð b c)) (K:List Lk→Option ρ) :
 Ì (fun(v17:Val Ð) kk20=>afT (b.2.2.2.2.1.length:Int) (ŝ (ð b c)) (ä (ð b c)) (Û (ä (ð b c))) v17.1 v17.2 (fun u18 u19=>kk20 (u18,u19)) K) ((0:Int),[])=K (þ (ð b c)):=by
 have hl3:=h.sys.len;have hsl:=aJH h;obtain⟨S,hS,hSk⟩:=aZP b c;have hL:=aI3 b c h
 have hSl:S.length=(þ (ð b c)).length:=by
  rw[hS,hL,List.length_append,List.length_append] at hsl;simpa using hsl
 generalize þ (ð b c)=H at hL hSl ⊢;rw[hS];generalize ä (ð b c)=L at hL hsl hl3 ⊢
 have hLl:L.length=H.length+2:=by rw[hL]; simp
 refine ñ L (fun i=>(L.take i).take H.length) _ (by simp) (fun i l hi hl kn=>?_) (fun kn=>?_)
 ·try dsimp only
  unfold afT;rw[Ö hi,Ë hl];rcases Nat.lt_or_ge i H.length with h1|h1
  ·have hs:(S++[((3:Int),(b.2.2.2.2.1.length:Int)),(3,(b.2.2.2.2.1.length:Int))])[i]?=some S[i]:=by
    rw[List.getElem?_append_left (by omega),List.getElem?_eq_getElem]
   have hk:=hSk S[i] (List.getElem_mem _)
   have e:((Ă (S[i]).1 (3:Int))&&((Ă (S[i]).2 (b.2.2.2.2.1.length:Int))&&true))=false:=by
    simp[Ă]; omega
   have e1:(L.take i).take H.length=L.take i:=List.take_of_length_le (by rw[List.length_take]; omega);have e2:(L.take (i+1)).take H.length=L.take (i+1):=List.take_of_length_le (by rw[List.length_take]; omega);rw[Ë hs,e,Ú (by rfl),e1,e2,ģ (Ù (by rw[List.length_take]; simp; omega)),Ñ hi (by omega),take_succ hl]
  ·have hs:(S++[((3:Int),(b.2.2.2.2.1.length:Int)),(3,(b.2.2.2.2.1.length:Int))])[i]?=some ((3:Int),(b.2.2.2.2.1.length:Int)):=by
    rw[List.getElem?_append_right (by omega)]
    have:i-S.length=0∨i-S.length=1:=by omega
    rcases this with e|e<;>rw[e]<;>rfl
   have e:((Ă (3:Int) (3:Int))&&((Ă (b.2.2.2.2.1.length:Int) (b.2.2.2.2.1.length:Int))&&true))=true:=by simp[Ă]
   have e1:(L.take i).take H.length=(L.take (i+1)).take H.length:=by
    rw[List.take_take,List.take_take];congr 1;omega
   rw[Ë hs];dsimp only;rw[e,Õ (by rfl),Ñ hi (by omega),e1]
 ·try dsimp only
  unfold afT;rw[ã,List.take_length,hL];simp
theorem aPP {B:â} (hr:a0T B) (n:Int×Int) {c:Cmp} (hA:c.2.2.1.length≤1000) (hB:c.2.2.2.1.length≤1000):alG (B,aCa B) n c=some (aMp B n c):=by
 unfold alG axQ aMp;have hs:=hr.good.size;rw[show(B,aCa B).1=B from rfl,aVV hs hr.num hA hB,À]
 by_cases hp:(Ļ B c).2=0
 ·obtain⟨g1,g2⟩:=aif hp;have ho:=aze hp
  have e1:apY B (Ê c)=(ð B (Ê c),0):=by
   unfold apY;rw[if_neg (by simp[(ô B).2 g1]),if_neg (by simp[(ô _).2 g2])]
  have hn2:∀g∈(ð B (Ê c)).2.1,I64 g.2.2.2.2.1.1:=hr.num;have hC:=g2.nC
  have hw:(((ð B (Ê c)).2.2.2.2.1.length:Int)-1)=(B.2.2.2.2.1.length:Int):=by simp[ð]
  have hSays:a0R (ð B (Ê c)) (B.2.2.2.2.1.length:Int)=(Ξ B (Ê c),0):=by
   have e:akK (ð B (Ê c)) (B.2.2.2.2.1.length:Int)=(Ê c,0):=by
    unfold akK;rw[if_neg (by simp[(ô _).2 g2]),if_neg (by simp[ð]; omega)];simp[ð]
   unfold a0R;rw[e,if_neg (by simp)];rfl
  have hCancel:aGb c.2.2.1 c.2.2.2.1=(ë c.2.2.1 c.2.2.2.1,ë c.2.2.2.1 c.2.2.1,0):=by
   have hnu:=(Ο _).1 (g2.nums (ap8 (c:=Ê c)));have h6:aga c.2.2.1=true∧aga c.2.2.2.1=true:=⟨hnu.2.2.2.2.2.1,hnu.2.2.2.2.2.2⟩;unfold aGb;rw[h6.1,h6.2];rfl
  rw[Õ (by rw[hp]; rfl),if_neg (by simp[hp]),show aib B (c.1,c.2.1,c.2.2.1,c.2.2.2.1,(0:Int),c.2.2.2.2.2)=aib B (Ê c) from rfl,aYK hs hr.num (c:=Ê c) hA hB,À,e1];dsimp only;rw[Õ (by rfl),ç,hw,Ø (by omega) (by omega),a2o (g2.inn hn2),À,hSays,aQO (by omega) (by omega),À,hCancel,ahq (g2.inn hn2),À,adx g2];dsimp only;refine(aXH g2 _).trans ?_;have ex:cx (ð B (Ê c)) (Ê c)=atP (Î (ð B (Ê c))) (ë c.2.2.1 c.2.2.2.1) c.2.1:=rfl;have ey:cy (ð B (Ê c)) (Ê c)=atP (Î (ð B (Ê c))) (ë c.2.2.2.1 c.2.2.1) c.2.1:=rfl;rw[aNL g2 hn2,À,aNL g2 hn2,À,aF1 g2 hn2,À,←ex,←ey,aT1 g1 g2 ho _ (Μ _) (Ū _ n),À,aT1 g1 g2 ho _ (Ū _ n) (Μ _),À];rfl
 ·rw[Ú (bne_iff_ne.2 hp),if_pos hp];rfl
end Go.Proofs.ZzM
end
noncomputable section
namespace Go.Proofs.ZzM
open Go Go.Am
abbrev a01:Type:=â×(Int×Int)×Bool×Int×List Int
def aX7:a01:=(afw,(0,0),false,0,[])
def ash (L:List Lk):Int→Int→List Int→Int×Int×Bool
 |u,s,[]=>(u,s,true)
 |u,s,i::t=>if (L[i.toNat]?.getD (0,0,0)).1=u then ash L (L[i.toNat]?.getD (0,0,0)).2.1 (s+(L[i.toNat]?.getD (0,0,0)).2.2) t else(0,0,false)
def aQB (L:List Lk) (i:Int):Bool:=decide (i<0)||decide ((L.length:Int)≤i)
def afW (L:List Lk) (l:List Int):Int:=if 80<l.length then 2 else if l.any (aQB L) then 1 else 0
def ż (L:List Lk) (u v:Int) (l:List Int):Int×Int :=
 if afW L l≠0 then(0,afW L l) else if (ash L u 0 l).2.2=true∧(ash L u 0 l).1=v then((ash L u 0 l).2.1,0) else(0,8)
def a1k (u:Int) (w:Int×Int×Bool):Int:=if w.2.2=true∧w.1=u∧w.2.1<0 then 0 else 8
def anj (L:List Lk) (l:List Int):Int :=
 if afW L l≠0 then afW L l else match l with
 |[]=>8
 |i::_=>a1k (L[i.toNat]?.getD (0,0,0)).1 (ash L (L[i.toNat]?.getD (0,0,0)).1 0 l)
section
variable {L:List Lk} {N:Nat}
theorem aI9 (N:Int) (hL:L.length≤1000) (l:List Int):ai5 (N,L) l=some (afW L l):=by
 unfold ai5 as9 afW;dsimp only;rw[ç]
 by_cases h:80<l.length
 ·rw[Ú (decide_eq_true (by omega)),if_pos h]
 ·rw[Õ (decide_eq_false (by omega)),if_neg h,←ç l];refine(Ĺ l (aQB L) (fun z=>ifb (ige z 0) (some 1) (some 0)) (some 1) (some 0) (fun j=>by rw[show ige (j:Int) 0=true from decide_eq_true (by omega)]; rfl) (fun i a hi ha kn=>?_) (fun kn=>?_)).trans ?_
  ·try dsimp only
   unfold agV aQB;rw[Ö hi,Ë ha,Ñ hi (by omega),ç,Ĥ,Ĥ]
   by_cases h1:a<0
   ·simp[ilt,h1]
   ·by_cases h2:(L.length:Int)≤a
    ·simp[ilt,ige,h1,h2]
    ·simp[ilt,ige,h1,h2]
  ·try dsimp only
   unfold agV;rw[ã]
  ·cases l.any (aQB L)<;>rfl
theorem aSh {l:List Int} (h:afW L l=0):l.length≤80∧∀i∈l,0≤i∧i.toNat<L.length:=by
 unfold afW at h
 split at h
 ·omega
 ·rename_i h1
  split at h
  ·omega
  ·rename_i h2;refine⟨by omega,fun i hi=>?_⟩;have:=List.any_eq_false.1 (Bool.eq_false_iff.2 h2) i hi;simp[aQB] at this;omega
theorem aV8 (hS:ņ L N) (u:Int) {l:List Int} (h:afW L l=0):awG ((N:Int),L) u l=some (ash L u 0 l):=by
 obtain⟨hl,hi⟩:=aSh h;unfold awG aLv;dsimp only
 have:=als (f:=fun(v7:Int×Int×Int) kk11=>amt l (Û l) L v7.1 v7.2.1 v7.2.2 (fun u8 u9 u10=>kk11 (u8,u9,u10)) (fun z5=>some (z5.1,z5.2.1,z5.2.2)) (fun z6=>some (z6.1,z6.2,true)))
  (F:=fun v=>some (ash L v.1 v.2.1 (l.drop v.2.2.toNat))) (fun v=>∃i:Nat,v.2.2=i∧i≤l.length∧(-(i*4503599627370496)≤v.2.1∧v.2.1≤i*4503599627370496)) (fun v=>l.length-v.2.2.toNat) (fun v hv kn hk=>?_) (x:=(u,(0:Int),(0:Int))) ⟨0,rfl,by omega,by simp⟩
 ·exact this
 ·obtain⟨w,s,n⟩:=v;obtain⟨i,e,h1,h2⟩:=hv;dsimp only at e h2 hk ⊢;subst e;rw[Int.toNat_natCast] at hk ⊢;unfold amt;rcases Nat.lt_or_ge i l.length with h3|h3
  ·have ha:l[i]?=some l[i]:=List.getElem?_eq_getElem h3;have hd:l.drop i=l[i]::l.drop (i+1):=List.drop_eq_getElem_cons h3;rw[hd];have hx:=hi l[i] (List.getElem_mem _);generalize l[i]=a at ha hx;have hg:L[a.toNat]?=some L[a.toNat]:=List.getElem?_eq_getElem hx.2;have hm:=hS.most _ (List.mem_of_getElem? hg);generalize L[a.toNat]=x at hg hm;rw[Ö h3,Ë ha,aes hx.1 hg];unfold ash;rw[hg];simp only[Option.getD_some]
   by_cases hc:x.1=w
   ·rw[Õ (by rw[hc]; exact bne_self_eq_false' _),if_pos hc,Ø (by omega) (by omega),Ñ h3 (by omega),hk _ ⟨i+1,by push_cast; rfl,h3,by dsimp only; push_cast; omega⟩ (by simp; omega)];simp
   ·rw[Ú (bne_iff_ne.2 hc),if_neg hc]
  ·obtain rfl:i=l.length:=by omega
   rw[ã,List.drop_length];rfl
theorem aV9 (hS:ņ L N):∀(l:List Int) (u s B:Int),-B≤s∧s≤B→-(B+l.length*4503599627370496)≤(ash L u s l).2.1∧(ash L u s l).2.1≤B+l.length*4503599627370496
 |[],u,s,B,h=>by simp[ash]; omega
 |i::t,u,s,B,h=>by
  unfold ash
  have hm : -4503599627370496≤(L[i.toNat]?.getD (0,0,0)).2.2∧(L[i.toNat]?.getD (0,0,0)).2.2≤4503599627370496:=by
   cases hg:L[i.toNat]? with
   |none=>simp
   |some x=>exact hS.most x (List.mem_of_getElem? hg)
  split
  ·have:=aV9 hS t (L[i.toNat]?.getD (0,0,0)).2.1 (s+(L[i.toNat]?.getD (0,0,0)).2.2) (B+4503599627370496) (by omega);rw[List.length_cons];push_cast;omega
  ·dsimp only;omega
theorem aw5 (hS:ņ L N) {u v:Int} (hu:0≤u∧u<N) (hv:0≤v∧v<N) (l:List Int):aeP ((N:Int),L) u v l=some (ż L u v l):=by
 have hl3:=hS.len;unfold aeP akw ż
 have e1:(decide (0≤u)&&decide (u<(N:Int)))=true:=by simp[hu.1,hu.2]
 have e2:(decide (0≤v)&&decide (v<(N:Int)))=true:=by simp[hv.1,hv.2]
 rw[af8 hS,À,Õ (by rfl),aCF,À,e1,Õ (by rfl),aCF,À,e2,Õ (by rfl),aI9 _ (by omega),À]
 by_cases h:afW L l=0
 ·rw[Õ (by rw[h]; rfl),if_neg (by simp[h]),aV8 hS u h,À]
  cases h1:(ash L u 0 l).2.2 with
  |false=>rw[Ú (by rfl),if_neg (by simp)]
  |true =>
   rw[Õ (by rfl)]
   by_cases h2:(ash L u 0 l).1=v
   ·rw[Õ (by rw[h2]; exact bne_self_eq_false' _),if_pos ⟨rfl,h2⟩]
   ·rw[Ú (bne_iff_ne.2 h2),if_neg (fun h=>h2 h.2)]
 ·rw[Ú (bne_iff_ne.2 h),if_pos h]
theorem aXx {ρ α:Type} (x:α) (t:List α) (f:α→Option ρ):ă (x::t) (0:Int) f=f x:=rfl
theorem aH6 (hS:ņ L N) (l:List Int):agY ((N:Int),L) l=some (anj L l):=by
 have hl3:=hS.len;unfold agY akv anj;rw[af8 hS,À,Õ (by rfl),aI9 _ (by omega),À]
 by_cases h:afW L l=0
 ·rw[Õ (by rw[h]; rfl),if_neg (by simp[h])]
  cases l with
  |nil=>rw[ç]; rfl
  |cons i t =>
   have hx:=(aSh h).2 i (by simp);have hg:L[i.toNat]?=some L[i.toNat]:=List.getElem?_eq_getElem hx.2;generalize L[i.toNat]=x at hg;rw[ç,Õ (beq_eq_false_iff_ne.2 (by simp; omega)),aXx,aes hx.1 hg,aV8 hS x.1 h,À];dsimp only;rw[hg];dsimp only[Option.getD_some];generalize ash L x.1 0 (i::t)=w;obtain⟨e,sum,ok⟩:=w;unfold a1k;dsimp only
   cases ok with
   |false=>rw[Ú (by rfl),if_neg (by simp)]
   |true =>
    rw[Õ (by rfl)]
    by_cases h2:e=x.1
    ·rw[Õ (by rw[h2]; exact bne_self_eq_false' _)]
     by_cases h3:sum<0
     ·rw[Õ (decide_eq_false (by omega)),if_pos ⟨rfl,h2,h3⟩]
     ·rw[Ú (decide_eq_true (by omega)),if_neg (fun h=>h3 h.2.2)]
    ·rw[Ú (bne_iff_ne.2 h2),if_neg (fun h=>h2 h.2.1)]
 ·rw[Ú (bne_iff_ne.2 h),if_pos h]
end
def aiu (c:a01):Int :=
 if é c.1≠0 then é c.1 else if amT c.1 c.2.1.1 c.2.1.2=0 then 5 else
 if c.2.2.1 then(if ż (ä c.1) 0 (amT c.1 c.2.1.1 c.2.1.2) c.2.2.2.2=(c.2.2.2.1,0) then 0 else 8)
 else(if ż (ä c.1) (amT c.1 c.2.1.1 c.2.1.2) 0 c.2.2.2.2=(-c.2.2.2.1,0) then 0 else 8)
def ajd (c:a01):Int :=
 if é c.1≠0 then é c.1 else if c.2.1≠(0,0)∨c.2.2.1=true∨c.2.2.2.1≠0 then 1 else if anj (ä c.1) c.2.2.2.2=0 then 0 else 8
def aSQ (b:â) (c:a01):Bool×Int :=
 if é b≠0 then(false,é b) else
 if c.2.1=(0,0) then(if ajd c≠0 then(false,ajd c) else(aZH c.1 b,0)) else(if aiu c≠0 then(false,aiu c) else(aZH c.1 b,0))
theorem wr_neg {n:Int} (h:I64 n):a1r (0-n)=if n = -9223372036854775808 then n else -n:=by
 have e:a1r (0-n)=if (0-n) % 18446744073709551616≥9223372036854775808 then(0-n) % 18446744073709551616-18446744073709551616 else(0-n) % 18446744073709551616:=by
  simp[a1r,IntKind.wrap,IntKind.bits,IntKind.signed]
 rw[e];unfold I64 at h
 split<;>split<;>omega
theorem aAr {c:a01} (hI:In c.1) (hv:I64 c.2.2.2.1):af1 c=some (aiu c):=by
 unfold af1 amq aiu;rw[adO hI.size hI.num,À]
 by_cases hc:é c.1=0
 ·have hg:=(ô c.1).1 hc;rw[Õ (by simp[ine,hc]),if_neg (show ¬(é c.1≠0) from fun h=>h hc),aF9 hI,À,atF hg,ahq hI,À,adx hg];dsimp only
  by_cases h0:amT c.1 c.2.1.1 c.2.1.2=0
  ·rw[if_pos h0,if_pos h0]; rfl
  ·have hN:=hg.sys;have hr:=Ū c.1 c.2.1;have hz:=Μ c.1;rw[if_neg h0,if_neg h0,Õ (by rfl),show(((Î c.1).length:Int)+1)=(((Î c.1).length+1:Nat):Int) by push_cast; rfl];dsimp only;rw[show(∀f:Int→Option Int,ck (0-c.2.2.2.1) f=f (a1r (0-c.2.2.2.1))) from fun f=>rfl,wr_neg hv]
   have key:∀(u v:Int) (t t':Int),(t'=t∨(t' = -9223372036854775808∧t=9223372036854775808))→(ifb (ine (ż (ä c.1) u v c.2.2.2.2).2 0) (some (8:Int)) (ifb (ine (ż (ä c.1) u v c.2.2.2.2).1 t') (some 8) (some 0)))=some (if ż (ä c.1) u v c.2.2.2.2=(t,0) then 0 else 8):=by
    intro u v t t' ht
    have hb : -9000000000000000000≤(ż (ä c.1) u v c.2.2.2.2).1∧(ż (ä c.1) u v c.2.2.2.2).1≤9000000000000000000:=by
     unfold ż
     split
     ·simp
     ·rename_i hi
      split
      ·have:=aV9 hN c.2.2.2.2 u 0 0 (by simp);have:=(aSh (by simpa using hi)).1;dsimp only;omega
      ·simp
    generalize ż (ä c.1) u v c.2.2.2.2=p at hb ⊢
    by_cases h2:p.2=0
    ·rw[Õ (by rw[h2]; rfl)]
     by_cases h1:p.1=t'
     ·have:p=(t,0):=Prod.ext (by rcases ht with h|h<;>omega) h2
      rw[Õ (by rw[h1]; exact bne_self_eq_false' _),if_pos this]
     ·have:¬p=(t,0):=fun e=>by
       have e1:p.1=t:=by rw[e]
       rcases ht with h|h<;>omega
      rw[Ú (bne_iff_ne.2 h1),if_neg this]
    ·have:¬p=(t,0):=fun e=>h2 (by rw[e]);rw[Ú (bne_iff_ne.2 h2),if_neg this]
   unfold I64 at hv
   cases c.2.2.1 with
   |true =>
    rw[ī,aw5 hN hz hr,À,key _ _ _ _ (.inl rfl)];rfl
   |false =>
    rw[è,aw5 hN hr hz,À,key _ _ (-c.2.2.2.1) _ (by split<;>omega)]
    rfl
 ·rw[Ú (by simp[ine,hc]),if_pos hc]
theorem aNb {c:a01} (hI:In c.1):agX c=some (ajd c):=by
 unfold agX akq ajd;rw[adO hI.size hI.num,À]
 by_cases hc:é c.1=0
 ·have hg:=(ô c.1).1 hc;rw[Õ (by simp[ine,hc]),if_neg (show ¬(é c.1≠0) from fun h=>h hc)]
  by_cases h1:c.2.1=(0,0)
  ·have e1:(!((Ă c.2.1.1 0)&&((Ă c.2.1.2 0)&&true)))=false:=by rw[h1]; rfl
   rw[e1,è]
   cases h2:c.2.2.1 with
   |true=>rw[ī,if_pos (.inr (.inl rfl))]
   |false =>
    rw[è]
    by_cases h3:c.2.2.2.1=0
    ·rw[Õ (by rw[h3]; rfl),if_neg (by simp[h1,h3]),ahq hI,À,adx hg,show(((Î c.1).length:Int)+1)=(((Î c.1).length+1:Nat):Int) by push_cast; rfl];dsimp only;rw[aH6 hg.sys,À]
     by_cases h4:anj (ä c.1) c.2.2.2.2=0
     ·rw[Õ (by rw[h4]; rfl),if_pos h4]
     ·rw[Ú (bne_iff_ne.2 h4),if_neg h4]
    ·rw[Ú (bne_iff_ne.2 h3),if_pos (.inr (.inr h3))]
  ·have e1:(!((Ă c.2.1.1 0)&&((Ă c.2.1.2 0)&&true)))=true:=by
    rw[Prod.ext_iff] at h1;simp[Ă];dsimp only at h1;omega
   rw[e1,ī,if_pos (.inl h1)]
 ·rw[Ú (by simp[ine,hc]),if_pos hc]
theorem aYL {b:â} {c:a01} (hb:In b) (hI:In c.1) (hv:I64 c.2.2.2.1):aqx b c=some (aSQ b c):=by
 unfold aqx axV aSQ;rw[adO hb.size hb.num,À]
 by_cases hc:é b=0
 ·rw[Õ (by simp[ine,hc]),if_neg (show ¬(é b≠0) from fun h=>h hc)]
  by_cases h1:c.2.1=(0,0)
  ·have e1:((Ă c.2.1.1 0)&&((Ă c.2.1.2 0)&&true))=true:=by rw[h1]; rfl
   rw[e1,ī,if_pos h1,aNb hI,À]
   by_cases h2:ajd c=0
   ·rw[Õ (by rw[h2]; rfl),if_neg (by simp[h2]),part_ok hI.size hb.size,À]
   ·rw[Ú (bne_iff_ne.2 h2),if_pos h2]
  ·have e1:((Ă c.2.1.1 0)&&((Ă c.2.1.2 0)&&true))=false:=by
    rw[Prod.ext_iff] at h1;simp[Ă];dsimp only at h1;omega
   rw[e1,è,if_neg h1,aAr hI hv,À]
   by_cases h2:aiu c=0
   ·rw[Õ (by rw[h2]; rfl),if_neg (by simp[h2]),part_ok hI.size hb.size,À]
   ·rw[Ú (bne_iff_ne.2 h2),if_pos h2]
 ·rw[Ú (by simp[ine,hc]),if_pos hc]
end Go.Proofs.ZzM
end
noncomputable section
namespace Go.Proofs.ZzM
open Go Go.Am
def aCe (b:â) (l:List Int):List (Int×Int):=l.map fun i=>(ŝ b)[i.toNat]?.getD (0,0)
theorem aUF {b:â} (hg:ę b) (hn:∀g∈b.2.1,I64 g.2.2.2.2.1.1) {l:List Int} (hl:l.length≤1000) (hi:∀i∈l,0≤i∧i.toNat<(ä b).length):ai2 b l=some (aCe b l):=by
 unfold ai2 asY;rw[ahq (hg.inn hn),À,adx hg];refine ñ l (fun i=>aCe b (l.take i)) _ rfl (fun i a hlt ha kn=>?_) (fun kn=>?_)
 ·try dsimp only
  unfold agT;have hx:=hi a (List.mem_of_getElem? ha);have hs:(ŝ b)[a.toNat]?=some ((ŝ b)[a.toNat]'(by rw[aJH hg]; exact hx.2)):=List.getElem?_eq_getElem _;generalize (ŝ b)[a.toNat]'(by rw[aJH hg]; exact hx.2)=x at hs
  have hlen:(aCe b (l.take i)).length≤1000:=by unfold aCe; rw[List.length_map,List.length_take]; omega
  rw[Ö hlt,Ë ha,aes hx.1 hs,ģ (show ì ((aCe b (l.take i)).length+[x].length)=true from Ù (show(aCe b (l.take i)).length+1≤4294967296 by omega)),Ñ hlt (by omega),take_succ ha];unfold aCe;rw[List.map_append,List.map_singleton,hs];rfl
 ·try dsimp only
  unfold agT;rw[ã,List.take_length]
theorem src_ok {b:â}:∀s∈ŝ b,a2n b s:=by
 intro s hs;unfold ŝ at hs;rcases List.mem_append.1 hs with h|h
 ·have:=aPX s h; exact .inl this
 ·have:=aQk s h; exact .inr this
theorem aZq {b:â} (hg:ę b) {l:List Int} (hi:∀i∈l,0≤i∧i.toNat<(ä b).length):∀s∈aCe b l,a2n b s:=by
 intro s hs;obtain⟨i,h1,rfl⟩:=List.mem_map.1 hs;have hx:=hi i h1;have hsx:(ŝ b)[i.toNat]?=some ((ŝ b)[i.toNat]'(by rw[aJH hg]; exact hx.2)):=List.getElem?_eq_getElem _;rw[hsx];exact src_ok _ (List.getElem_mem _)
section
variable {L:List Lk} {N:Nat}
theorem ayI (R:Nat→List Int) (good:Int→Bool):∀(k:Nat) (u sum:Int) (out:List Int),(∀i∈out,0≤i∧i.toNat<L.length)→(∀i∈akE L R good k u sum out,0≤i∧i.toNat<L.length)∧(akE L R good k u sum out).length≤out.length+k
 |0,u,sum,out,h=>⟨h,by simp[akE]⟩
 |k+1,u,sum,out,h=>by
  unfold akE
  cases hn:aGj L (R k) good u sum with
  |none =>
   have:=ayI R good k u sum out h;exact⟨this.1,by have:=this.2; dsimp only; omega⟩
  |some i =>
   have hi:i<L.length:=by
    unfold aGj at hn;exact(List.findIdx?_eq_some_iff_getElem.1 hn).1
   have:=ayI R good k (L[i]?.getD (0,0,0)).2.1 (sum+(L[i]?.getD (0,0,0)).2.2) (out++[(i:Int)]) (fun j hj=>by
    rcases List.mem_append.1 hj with h1|h1
    ·exact h j h1
    ·simp at h1; subst h1; simp; exact hi)
   exact⟨this.1,by have:=this.2; simp at this; dsimp only; omega⟩
theorem aQn (N:Nat) (u v:Int):(∀i∈(aGa L N u v).1,0≤i∧i.toNat<L.length)∧(aGa L N u v).1.length≤N:=by
 unfold aGa
 split
 ·simp
 ·cases h:(ahM L N v N).findIdx? (fun x=>gv x u==(adp L N u v).1) with
  |none=>simp
  |some k =>
   have hk:=(List.findIdx?_eq_some_iff_getElem.1 h).1;rw[afr] at hk;have:=ayI (L:=L) (exL L N v) (fun n=>ieq n (adp L N u v).1) k u 0 [] (by simp);exact⟨this.1,by have:=this.2; simp at this; dsimp only; omega⟩
end
def aAm (B:â) (n:Int×Int) (upper:Bool):List Int :=
 if upper then(aGa (ä B) ((Î B).length+1) 0 (amT B n.1 n.2)).1 else(aGa (ä B) ((Î B).length+1) (amT B n.1 n.2) 0).1
def an6 (B:â) (n:Int×Int) (upper:Bool):â:=cutP B (aCe B (aAm B n upper)) [n]
def certR (B:â) (n:Int×Int) (upper:Bool):a01:=(an6 B n upper,n,upper,(if upper then(ivR B n).2 else(ivR B n).1),aAm (an6 B n upper) n upper)
def aig (b:â) (n:Int×Int) (upper:Bool):a01×Int :=
 if (ú b [n]).2≠0 then(aX7,(ú b [n]).2) else
 if é (an6 (ú b [n]).1 n upper)≠0 then(aX7,é (an6 (ú b [n]).1 n upper)) else
 if Ĩ (ä (an6 (ú b [n]).1 n upper)) ((Î (an6 (ú b [n]).1 n upper)).length+1) then(certR (ú b [n]).1 n upper,0) else(aX7,9)
theorem aVA {ρ:Type}:@aks ρ=@ē ρ:=rfl
theorem aWN {ρ:Type} (K:Option ρ):Ì (fun(v23:Int) kk25=>akr (0:Int) v23 (fun u24=>kk25 u24) (fun _=>K)) (0:Int)=K:=by
 refine ł (fun x=>x=0) (fun _=>0) (fun x hx=>.inl fun kn=>?_) rfl;rw[hx];rfl
theorem aS1 {B:â} (h:ę B) (hn:∀g∈B.2.1,I64 g.2.2.2.2.1.1) (n:Int×Int) (upper:Bool):af2 (B,aCa B) n upper=some (aAm B n upper):=by
 unfold af2 amr aAm;rw[aF1 h hn,À,show(B,aCa B).2=aCa B from rfl,asi]
 cases upper with
 |true=>rw[ī,aUx h.sys (Μ B) (Ū B n),À]; rfl
 |false=>rw[è,aUx h.sys (Ū B n) (Μ B),À]; rfl
theorem aVy {B:â} (h:ę B) (n:Int×Int) (upper:Bool):(∀i∈aAm B n upper,0≤i∧i.toNat<(ä B).length)∧(aAm B n upper).length≤60:=by
 have hN:=h.sys.n60;unfold aAm
 split
 ·have:=aQn (L:=ä B) ((Î B).length+1) 0 (amT B n.1 n.2);exact⟨this.1,by have:=this.2; omega⟩
 ·have:=aQn (L:=ä B) ((Î B).length+1) (amT B n.1 n.2) 0;exact⟨this.1,by have:=this.2; omega⟩
theorem aE9 (w:List Int):∀(l:List Cmp) (i:Nat),∀c∈atq w i l,c∈l
 |[],i,c,h=>by simp[atq] at h
 |a::l,i,c,h=>by
  simp only[atq] at h
  split at h
  ·rcases List.mem_cons.1 h with h|h
   ·rw[h]; simp
   ·exact List.mem_cons_of_mem _ (aE9 w l (i+1) c h)
  ·exact List.mem_cons_of_mem _ (aE9 w l (i+1) c h)
theorem a1f {b:â} (h:In b) (ss:List (Int×Int)) {looks:List (Int×Int)} (hl:looks.length≤1000):In (cutP b ss looks):=by
 obtain⟨hs,hn⟩:=h;have g1:=hs.gauges; have g2:=hs.uses; have g3:=hs.loans; have g4:=hs.compares;unfold cutP;refine⟨⟨?_,?_,?_,?_,hl,fun c hc=>hs.piles c (aE9 _ _ _ c hc)⟩,fun g hg=>hn g (List.mem_filter.1 hg).1⟩
 ·exact Nat.le_trans (List.length_filter_le _ _) g1
 ·exact Nat.le_trans (List.length_filter_le _ _) g2
 ·exact Nat.le_trans (List.length_filter_le _ _) g3
 ·exact Nat.le_trans (aFa _ _ _) g4
theorem aVZ {b:â} (hI:In b) (n:Int×Int) (upper:Bool):am4 b n upper=some (aig b n upper):=by
 unfold am4 as7 aig;rw[aVA];refine(alW hI (ns:=[n]) (by simp) (fun e=>some (aX7,e)) (fun e he=>by rw[ģ (by simp[ine,he])]; rfl) (fun z he=>by rw[ģ (by simp[ine,he])]; rfl) (fun _ _ _=>rfl)).trans ?_
 split
 ·rfl
 ·rename_i e;have hr:=(afz hI (by simpa using e)).1;dsimp only;generalize (ú b [n]).1=B at hr ⊢;have hci:=aVy hr.good n upper;have hpi:In (an6 B n upper):=a1f (hr.good.inn hr.num) _ (by simp)
  rw[apB,show((((Î B).length:Int)+1,ä B):Sys)=aCa B from rfl,aS1 hr.good hr.num,À,aUF hr.good hr.num (by omega) hci.1,À,
   cut_ok hr.good.size (by unfold aCe; rw[List.length_map]; omega) (by simp) (aZq hr.good hci.1),À,show cutP B (aCe B (aAm B n upper)) [n]=an6 B n upper from rfl,adO hpi.size hpi.num,À]
  by_cases hc:é (an6 B n upper)=0
  ·have hg:=(ô _).1 hc;rw[Õ (by simp[ine,hc]),if_neg (show ¬(é (an6 B n upper)≠0) from fun h=>h hc)];refine(aWN _).trans ?_;rw[ahq hpi,À,adx hg,Õ (by rfl)];dsimp only;rw[show((((Î (an6 B n upper)).length:Int)+1,ä (an6 B n upper)):Sys)=aCa (an6 B n upper) from rfl,asi (an6 B n upper),ani hg.sys,À]
   cases ho:Ĩ (ä (an6 B n upper)) ((Î (an6 B n upper)).length+1) with
   |false=>rw[if_neg (by simp)]; rfl
   |true =>
    rw[if_pos rfl,←asi (an6 B n upper),Õ (by rfl),aI5 hr,À,aS1 hg hpi.num,À]
    cases upper with
    |true=>rw[ī,awq hr,À]; rfl
    |false=>rfl
  ·rw[Ú (by simp[ine,hc]),if_pos hc,Ú (by simp[ine,hc])];rfl
theorem aVv {L:List Lk} {N:Nat} (h:ņ L N) (ho:Ĩ L N=true):apI ((N:Int),L)=some ([],5):=by
 have hN:=h.n60;unfold apI aEn;rw[af8 h,À,Õ (by rfl),asm h.links h.n1 (by omega),À,if_pos ho];rfl
theorem aQ8 {b:â} (hg:ę b) (hn:∀g∈b.2.1,I64 g.2.2.2.2.1.1) (ho:Ĩ (ä b) ((Î b).length+1)=true):awF b=some (aX7,5):=by
 unfold awF aD2;rw[ahq (hg.inn hn),À,adx hg,Õ (by rfl),show((((Î b).length:Int)+1,ä b),ŝ b,(0:Int)).1=aCa b from rfl,asi,aVv hg.sys ho,À];rfl
end Go.Proofs.ZzM
end
noncomputable section
namespace Go.Proofs.ZzM
open Go Go.Am
theorem aX3 {k:Int×Int} (hk:0<k.2) (m n:Int):0<a1i (aun k m) (aun k n)↔k.1*n<k.1*m:=by
 obtain⟨g,g0,_,g1,g2⟩:=ap5 (n:=k.1*m) hk;obtain⟨h,h0,_,h1,h2⟩:=ap5 (n:=k.1*n) hk
 have key:(aun k n).1*(aun k m).2<(aun k m).1*(aun k n).2↔k.1*n<k.1*m:=by
  have e1:(aun k n).1*(aun k m).2*((g:Int)*h)=k.1*n*k.2:=by
   show(ahv (k.1*n) k.2).1*(ahv (k.1*m) k.2).2*((g:Int)*h)=k.1*n*k.2
   calc _=((ahv (k.1*n) k.2).1*h)*((ahv (k.1*m) k.2).2*g):=by ac_rfl
    _=_:=by rw[←h1,←g2]
  have e2:(aun k m).1*(aun k n).2*((g:Int)*h)=k.1*m*k.2:=by
   show(ahv (k.1*m) k.2).1*(ahv (k.1*n) k.2).2*((g:Int)*h)=k.1*m*k.2
   calc _=((ahv (k.1*m) k.2).1*g)*((ahv (k.1*n) k.2).2*h):=by ac_rfl
    _=_:=by rw[←g1,←h2]
  have pg:0<(g:Int)*h:=Int.mul_pos (by omega) (by omega);constructor
  ·intro hl;have:=Int.mul_lt_mul_of_pos_right hl pg;rw[e1,e2] at this;exact Int.lt_of_mul_lt_mul_right this (by omega)
  ·intro hl;have:=Int.mul_lt_mul_of_pos_right hl hk;rw[←e1,←e2] at this;exact Int.lt_of_mul_lt_mul_right this (by omega)
 rw[←key];unfold a1i
 by_cases he:aun k m=aun k n
 ·rw[if_pos he,he];omega
 ·rw[if_neg he]
  split
  ·omega
  ·split<;>omega
theorem aUP {k:Int×Int} (hk:0<k.2) {heat:Int×Int} (hh:heat.1≤heat.2):aJ6 k heat=if k.1<0 then(aun k heat.2,aun k heat.1) else(aun k heat.1,aun k heat.2):=by
 unfold aJ6
 by_cases hn:k.1<0
 ·rw[if_pos hn]
  by_cases he:heat.1=heat.2
  ·rw[he]
   split<;>rfl
  ·rw[if_pos ((aX3 hk _ _).2 (Int.mul_lt_mul_of_neg_left (by omega) hn))]
 ·rw[if_neg hn,if_neg (fun h=>by
   have h1:=(aX3 hk _ _).1 h;have h2:=Int.mul_le_mul_of_nonneg_left hh (show 0≤k.1 by omega)
   omega)]
end Go.Proofs.ZzM
end
noncomputable section
namespace Go.Proofs.ZzM
open Go Go.Am
section
variable {b:â} {c d:Cmp} {s:Int×Int}
theorem a1G (h:Pred b c s) : -10000000000000000≤s.1∧s.1≤s.2∧s.2≤10000000000000000:=by
 have q:=h.good2.cmp (ap8 (c:=Ê c));obtain⟨_,_,b1,b2,b3⟩:=an1 (b:=b) h.good.film (c:=Ê c) ⟨q.nums,q.r1,q.r2⟩;have e1:aSa b c=ayV (Ń b (Ê c)).1+(aey b (Ê c)).1-(Ê c).2.2.2.2.2.1:=rfl;have e2:ats b c=(Ń b (Ê c)).2.1 / (Ń b (Ê c)).2.2+(aey b (Ê c)).2+(Ê c).2.2.2.2.2.1:=rfl;have o:=h.order;have n:=h.ends;have bd:=h.bd;omega
end
end Go.Proofs.ZzM
end
noncomputable section
namespace Go.Proofs.ZzM
open Go Go.Am
def ξ (e:End):List Int:=[e.1-e.2.1,e.2.2-e.1,Int.tdiv (e.2.2-e.2.1) 2,Int.tdiv (e.2.2-e.2.1) 2-1,Int.tdiv (e.2.2-e.2.1) 2+1]
def akX (e:End) (n:Int):List Int:=[n-e.2.1,e.2.2-n]
def atE (e:End) (d:Int):Int:=min e.1 (min (e.2.1+d) (e.2.2-d))
def aCg (w:ay2) (d:Int):Int×Int:=(-(atE w.2.2 d),atE w.2.1 d)
def aVi (r:Int×Int) (n:Int):List Int:=[n-2,n-1,n,n+1,n+2].filter fun d=>decide (r.1<d)&&decide (d<r.2)
def aGk (r:Int×Int) (l:List Int):List Int:=[r.1,r.2]++l.flatMap (aVi r)
def aS0 (w:ay2) (l:List Int):Int:=l.foldl (fun m d=>max m ((aCg w d).2-(aCg w d).1)) (-1)
def aV7 (w:ay2):Int:=aS0 w (aGk w.1 (ξ w.2.1++ξ w.2.2))
def Sm (n:Int):Prop:=-100000000000000000≤n∧n≤100000000000000000
structure aM9 (e:End):Prop where
 s:Sm e.1
 u:Sm e.2.1
 d:Sm e.2.2
structure aM4 (w:ay2):Prop where
 lo:Sm w.1.1
 hi:Sm w.1.2
 high:aM9 w.2.1
 low:aM9 w.2.2
theorem aNo (n:Int) : -1≤n-2*Int.tdiv n 2∧n-2*Int.tdiv n 2≤1:=by
 have h1:=Int.tmod_add_mul_tdiv n 2;have h2:=Int.tmod_two_eq n;omega
theorem aBD {e:End} (h:aM9 e):adK e=some (ξ e):=by
 obtain⟨⟨a1,a2⟩,⟨b1,b2⟩,c1,c2⟩:=h;have h2:=aNo (e.2.2-e.2.1);unfold adK amh;rw[Ø (by omega) (by omega),Ø (by omega) (by omega),Ø (by omega) (by omega),Ø (by omega) (by omega),Ø (by omega) (by omega),Ø (by omega) (by omega)];rfl
theorem aBN {e:End} (h:aM9 e) {n:Int} (hn : -1000000000000000000≤n∧n≤1000000000000000000):adL e n=some (akX e n):=by
 obtain⟨⟨a1,a2⟩,⟨b1,b2⟩,c1,c2⟩:=h;unfold adL ami;rw[Ø (by omega) (by omega),Ø (by omega) (by omega)];rfl
theorem a1p {e:End} (h:aM9 e) {d:Int} (hd:Sm d):alH e d=some (atE e d):=by
 obtain⟨⟨a1,a2⟩,⟨b1,b2⟩,c1,c2⟩:=h;obtain⟨d1,d2⟩:=hd;unfold alH axT;rw[Ø (by omega) (by omega),Ø (by omega) (by omega),apz,apz];unfold atE;congr 1;omega
theorem aYF {e:End} (h:aM9 e) {d:Int} (hd:Sm d) : -200000000000000000≤atE e d∧atE e d≤100000000000000000:=by
 obtain⟨⟨a1,a2⟩,⟨b1,b2⟩,c1,c2⟩:=h;obtain⟨d1,d2⟩:=hd;unfold atE;omega
theorem aWk {w:ay2} (h:aM4 w) {d:Int} (hd:Sm d):Ŕ w d=some (aCg w d):=by
 unfold Ŕ akj;have b1:=aYF h.low hd;rw[a1p h.low hd,À,Ø (by omega) (by omega),a1p h.high hd,À];unfold aCg;rw[Int.zero_sub]
theorem aZ8 (r:Int×Int) (n:Int):(aVi r n).length≤5:=List.length_filter_le _ _
theorem aFm (r:Int×Int):∀l:List Int,(l.flatMap (aVi r)).length≤l.length*5
 |[]=>by simp
 |n::l=>by
  have h1:=aZ8 r n;have h2:=aFm r l;rw[List.flatMap_cons,List.length_append,List.length_cons];omega
theorem a1R {ρ:Type} (r:Int×Int) {n:Int} (hn : -4000000000000000000≤n∧n≤4000000000000000000) {out:List Int} (ho:out.length≤1000) (K:List Int→Option ρ) :
 Ì (fun(v9:(Val (.pair tI (.slice tI)))) kk12=>adj n r.1 r.2 v9.1 v9.2 (fun u10 u11=>kk12 (u10,u11)) K) (n-2,out)=K (out++aVi r n):=by
 let five:List Int:=[n-2,n-1,n,n+1,n+2]
 have hg:∀(i:Nat),i<5→five[i]?=some (n-2+i):=by
  intro i hi
  have:i=0∨i=1∨i=2∨i=3∨i=4:=by omega
  rcases this with rfl|rfl|rfl|rfl|rfl<;>simp only[five,List.getElem?_cons_zero,List.getElem?_cons_succ]<;>congr 1<;>omega
 refine ł (fun v=>∃i:Nat,i≤5∧v=(n-2+(i:Int),out++(five.take i).filter fun d=>decide (r.1<d)&&decide (d<r.2))) (fun v=>(n+3-v.1).toNat) ?_ ⟨0,by omega,by simp⟩;rintro v ⟨i,hi,rfl⟩;rcases Nat.lt_or_ge i 5 with h5|h5
 ·refine .inr ⟨(n-2+((i+1:Nat):Int),out++(five.take (i+1)).filter fun d=>decide (r.1<d)&&decide (d<r.2)),⟨i+1,h5,rfl⟩,by dsimp only; omega,fun kn=>?_⟩;have hl:((five.take i).filter fun d=>decide (r.1<d)&&decide (d<r.2)).length≤5:=aiX _ five i;dsimp only;unfold adj;rw[Ø (by omega) (by omega),Ú (decide_eq_true (by omega)),take_succ (hg i h5),List.filter_append]
  have e0:n-2+(i:Int)+1=n-2+((i+1:Nat):Int):=by push_cast; omega
  by_cases h1:r.1<n-2+(i:Int)
  ·rw[Ú (show igt (n-2+(i:Int)) r.1=true from decide_eq_true h1)]
   by_cases h2:n-2+(i:Int)<r.2
   ·rw[Ú (show ilt (n-2+(i:Int)) r.2=true from decide_eq_true h2),ģ (Ù (by rw[List.length_append]; simp only[List.length_singleton]; omega)),Ø (by omega) (by omega),e0];simp[h1,h2]
   ·rw[Õ (show ilt (n-2+(i:Int)) r.2=false from decide_eq_false h2),Ø (by omega) (by omega),e0];simp[h1,h2]
  ·rw[Õ (show igt (n-2+(i:Int)) r.1=false from decide_eq_false h1),Ø (by omega) (by omega),e0];simp[h1]
 ·refine .inl fun kn=>?_
  obtain rfl:i=5:=by omega
  dsimp only;unfold adj;rw[Ø (by omega) (by omega),Õ (decide_eq_false (by omega))];rfl
theorem aWZ (w:ay2) {l:List Int} (hl:l.length≤100) (hn:∀n∈l,-2000000000000000000≤n∧n≤2000000000000000000):aeO w l=some (aGk w.1 l):=by
 unfold aeO akk;refine ñ l (fun i=>[w.1.1,w.1.2]++(l.take i).flatMap (aVi w.1)) _ rfl (fun i n hi ha kn=>?_) (fun kn=>?_)
 ·try dsimp only
  unfold aeq;have hb:=hn n (List.mem_of_getElem? ha);have h5:=aFm w.1 (l.take i)
  have ht:(l.take i).length≤100:=by rw[List.length_take]; omega
  rw[Ö hi,Ë ha,Ø (by omega) (by omega)];refine(a1R w.1 (by omega) (by rw[List.length_append]; simp only[List.length_cons,List.length_nil]; omega) _).trans ?_;rw[Ñ hi (by omega),take_succ ha,List.flatMap_append,List.append_assoc];simp
 ·try dsimp only
  unfold aeq;rw[ã,List.take_length];rfl
theorem aZO {r:Int×Int} {l:List Int} {d:Int}:d∈aGk r l↔d=r.1∨d=r.2∨(r.1<d∧d<r.2∧∃n∈l,n-2≤d∧d≤n+2):=by
 unfold aGk aVi;simp only[List.mem_append,List.mem_cons,List.not_mem_nil,or_false,List.mem_flatMap,List.mem_filter,Bool.and_eq_true,decide_eq_true_eq];constructor
 ·rintro((h|h)|⟨n,hn,h,h1,h2⟩)
  ·exact .inl h
  ·exact .inr (.inl h)
  ·exact .inr (.inr ⟨h1,h2,n,hn,by omega,by omega⟩)
 ·rintro(h|h|⟨h1,h2,n,hn,h3,h4⟩)
  ·exact .inl (.inl h)
  ·exact .inl (.inr h)
  ·exact .inr ⟨n,hn,by omega,h1,h2⟩
theorem aTE (r:Int×Int) {l:List Int} (hl:l.length≤100):(aGk r l).length≤600:=by
 have:=aFm r l;unfold aGk;rw[List.length_append];simp only[List.length_cons,List.length_nil];omega
theorem aWY {w:ay2} (h:aM4 w) {l:List Int}:∀d∈aGk w.1 l,Sm d:=by
 intro d hd;obtain⟨a1,a2⟩:=h.lo;obtain⟨b1,b2⟩:=h.hi;rcases aZO.1 hd with h|h|⟨h1,h2,_⟩
 ·rw[h]; exact⟨a1,a2⟩
 ·rw[h]; exact⟨b1,b2⟩
 ·exact⟨by omega,by omega⟩
theorem aBE {e:End} (h:aM9 e):∀n∈ξ e,-1000000000000000000≤n∧n≤1000000000000000000:=by
 obtain⟨⟨a1,a2⟩,⟨b1,b2⟩,c1,c2⟩:=h;have h2:=aNo (e.2.2-e.2.1);intro n hn;unfold ξ at hn;simp only[List.mem_cons,List.not_mem_nil,or_false] at hn;omega
theorem aZd {w:ay2} (h:aM4 w):afZ w=some (aV7 w):=by
 unfold afZ aiF
 have hl:([ξ w.2.1,ξ w.2.2]:List (List Int)).flatten=ξ w.2.1++ξ w.2.2:=by simp
 have hll:(ξ w.2.1++ξ w.2.2).length=10:=rfl
 rw[aBD h.high,À,aBD h.low,À,ait (by simp) (by rw[hl,hll]; omega),À,hl,aWZ w (by rw[hll]; omega) (fun n hn=>by
  rcases List.mem_append.1 hn with hn|hn
  ·have:=aBE h.high n hn; omega
  ·have:=aBE h.low n hn; omega),À]
 have hnl:=aTE w.1 (l:=ξ w.2.1++ξ w.2.2) (by rw[hll]; omega);have hsm:=aWY h (l:=ξ w.2.1++ξ w.2.2);unfold aV7;generalize aGk w.1 (ξ w.2.1++ξ w.2.2)=l at hnl hsm ⊢;refine ł (fun v=>∃i:Nat,i≤l.length∧v=(aS0 w (l.take i),(i:Int))) (fun v=>l.length-v.2.toNat) ?_ ⟨0,by omega,rfl⟩;rintro v ⟨i,hi,rfl⟩;rcases Nat.lt_or_ge i l.length with h2|h2
 ·have ha:l[i]?=some l[i]:=List.getElem?_eq_getElem h2;have hs:=hsm l[i] (List.getElem_mem _);generalize l[i]=d at ha hs;refine .inr ⟨(aS0 w (l.take (i+1)),((i+1:Nat):Int)),⟨i+1,h2,rfl⟩,by dsimp only; omega,fun kn=>?_⟩;dsimp only;unfold ad6;have b1:=aYF h.low hs;have b2:=aYF h.high hs;rw[Ö h2,Ë ha,show Ŕ ((w.1.1,w.1.2),(w.2.1.1,w.2.1.2.1,w.2.1.2.2),w.2.2.1,w.2.2.2.1,w.2.2.2.2) d=Ŕ w d from rfl,aWk h hs,À,Ø (by unfold aCg; dsimp only; omega) (by unfold aCg; dsimp only; omega),Ñ h2 (by omega),aSg,take_succ ha];unfold aS0;rw[List.foldl_append];rfl
 ·refine .inl fun kn=>?_
  obtain rfl:i=l.length:=by omega
  dsimp only;unfold ad6;rw[ã,List.take_length]
theorem aSZ {b:â} {n:Int×Int} {c:Cmp} (hp:(Ļ b c).2=0):aM4 (aNd b n c):=by
 obtain⟨g1,g2⟩:=aif hp;have ho:=aze hp;have hb:=a1G (aNJ hp);have hx:=asb g2;have hy:=asa g2;have b6:=aWr g1 g2 ho
 have key:∀{s t:Int},0≤s∧s<((Î (ð b (Ê c))).length+1:Nat)→0≤t∧t<((Î (ð b (Ê c))).length+1:Nat)→aM9 (endP b (Ê c) s t):=by
  intro s t hs ht;have b1:=akD g1 g2 ho hs ht;have b2:=akD g1 g2 ho hs hy;have b3:=akD g1 g2 ho hx ht;have b4:=akD g1 g2 ho hs hx;have b5:=akD g1 g2 ho hy ht;unfold endP;exact⟨⟨by dsimp only; omega,by dsimp only; omega⟩,⟨by dsimp only; omega,by dsimp only; omega⟩,by dsimp only; omega,by dsimp only; omega⟩
 exact⟨⟨by show _≤(Ļ b c).1.1; omega,by show(Ļ b c).1.1≤_; omega⟩,⟨by show _≤(Ļ b c).1.2; omega,by show(Ļ b c).1.2≤_; omega⟩,key (Μ _) (Ū _ n),key (Ū _ n) (Μ _)⟩
def aUp (b:â) (n:Int×Int) (c:Cmp):Int×Int :=
 if (ú b [n]).2≠0 then(0,(ú b [n]).2) else if (Ļ (ú b [n]).1 c).2≠0 then(0,(Ļ (ú b [n]).1 c).2) else(aV7 (aNd (ú b [n]).1 n c),0)
theorem aZe {ρ:Type}:@aoW ρ=@ē ρ:=rfl
theorem a0O {b:â} (hI:In b) (n:Int×Int) {c:Cmp} (hA:c.2.2.1.length≤1000) (hB:c.2.2.2.1.length≤1000):apF b n c=some (aUp b n c):=by
 unfold apF aDW aUp;rw[aZe];refine(alW hI (ns:=[n]) (by simp) (fun e=>some ((0:Int),e)) (fun e he=>by rw[ģ (by simp[ine,he])]) (fun z he=>by rw[ģ (by simp[ine,he])]) (fun _ _ _=>rfl)).trans ?_
 split
 ·rfl
 ·rename_i e;have hr:=(afz hI (by simpa using e)).1;dsimp only;rw[apB,show((((Î (ú b [n]).1).length:Int)+1,ä (ú b [n]).1):Sys)=aCa (ú b [n]).1 from rfl,aPP hr n hA hB,À];unfold aMp
  by_cases hp:(Ļ (ú b [n]).1 c).2=0
  ·rw[if_neg (by simp[hp]),if_neg (by simp[hp]),Õ (by rfl),aZd (aSZ hp),À]
  ·rw[if_pos hp,if_pos hp,Ú (bne_iff_ne.2 hp)]
def aV1 (x:Int):Int:=max (-288230376151711744) (min x 288230376151711744)
def aso (w:ay2) (l:Int×Int):List Int:=(ξ w.2.1++ξ w.2.2)++(akX w.2.1 l.1++akX w.2.2 (-l.1))++(akX w.2.1 l.2++akX w.2.2 (-l.2))
def aTg (w:ay2) (l:Int×Int):Bool:=(aGk w.1 (aso w l)).all fun d=>ajf (aCg w d) l != 3
def aB4 (b:â) (n l:Int×Int) (c:Cmp):Bool×Int :=
 if (ú b [n]).2≠0 then(false,(ú b [n]).2) else if l.2<l.1 then(false,1) else if (Ļ (ú b [n]).1 c).2≠0 then(false,(Ļ (ú b [n]).1 c).2) else(aTg (aNd (ú b [n]).1 n c) (aV1 l.1,aV1 l.2),0)
theorem aUG {ρ:Type}:@ako ρ=@ē ρ:=rfl
theorem a1d (x:Int):af0 x=some (aV1 x):=by
 unfold af0 aml aV1;rw[apz,aSg]
theorem aBO {e:End} (h:aM9 e) {n:Int} (hn : -300000000000000000≤n∧n≤300000000000000000):∀m∈akX e n,-1000000000000000000≤m∧m≤1000000000000000000:=by
 obtain⟨⟨a1,a2⟩,⟨b1,b2⟩,c1,c2⟩:=h;intro m hm;unfold akX at hm;simp only[List.mem_cons,List.not_mem_nil,or_false] at hm;omega
theorem aVR {b:â} (hI:In b) (n l:Int×Int) {c:Cmp} (hA:c.2.2.1.length≤1000) (hB:c.2.2.2.1.length≤1000):ai3 b n l c=some (aB4 b n l c):=by
 unfold ai3 as4 aB4;rw[aUG];refine(alW hI (ns:=[n]) (by simp) (fun e=>some (false,e)) (fun e he=>by rw[Ú (by simp[ine,he])]) (fun z he=>by rw[Ú (by simp[ine,he])]) (fun _ _ _=>rfl)).trans ?_
 split
 ·rfl
 ·rename_i e;have hr:=(afz hI (by simpa using e)).1;dsimp only
  by_cases hl:l.2<l.1
  ·rw[Ú (by simp[igt,hl]),if_pos hl]
  ·rw[Õ (by simp[igt]; omega),if_neg hl,apB,show((((Î (ú b [n]).1).length:Int)+1,ä (ú b [n]).1):Sys)=aCa (ú b [n]).1 from rfl,aPP hr n hA hB,À];unfold aMp
   by_cases hp:(Ļ (ú b [n]).1 c).2=0
   ·rw[if_neg (by simp[hp]),if_neg (by simp[hp]),Õ (by rfl)];have hw:=aSZ (n:=n) hp;dsimp only;generalize aNd (ú b [n]).1 n c=w at hw ⊢
    have f1 : -300000000000000000≤aV1 l.1∧aV1 l.1≤300000000000000000:=by unfold aV1; omega
    have f2 : -300000000000000000≤aV1 l.2∧aV1 l.2≤300000000000000000:=by unfold aV1; omega
    have q1:([ξ w.2.1,ξ w.2.2]:List (List Int)).flatten=ξ w.2.1++ξ w.2.2:=by simp
    have q2:∀x y z:List Int,([x,y,z]:List (List Int)).flatten=x++(y++z):=by intro x y z; simp
    rw[aBD hw.high,À,aBD hw.low,À,ait (by simp) (by rw[q1]; simp[ξ]),À,q1,a1d,À,a1d,À];generalize aV1 l.1=l1 at f1 ⊢;generalize aV1 l.2=l2 at f2 ⊢
    rw[aBN hw.high (by omega),À,Ø (by omega) (by omega),Int.zero_sub,aBN hw.low (by omega),À,ait (by simp) (by rw[q2]; simp[ξ,akX]),À,q2,
     aBN hw.high (by omega),À,Ø (by omega) (by omega),Int.zero_sub,aBN hw.low (by omega),À,ait (by simp) (by rw[q2]; simp[ξ,akX]),À,q2]
    have hll:(aso w (l1,l2)).length=18:=rfl;have qs:ξ w.2.1++ξ w.2.2++(akX w.2.1 l1++akX w.2.2 (-l1))++(akX w.2.1 l2++akX w.2.2 (-l2))=aso w (l1,l2):=rfl
    rw[qs,aWZ w (by rw[hll]; omega) (fun m hm=>by
     unfold aso at hm;simp only[List.mem_append] at hm;rcases hm with((hm|hm)|(hm|hm))|(hm|hm)
     ·have:=aBE hw.high m hm; omega
     ·have:=aBE hw.low m hm; omega
     ·have:=aBO hw.high f1 m hm; omega
     ·have:=aBO hw.low (n:=-l1) (by omega) m hm; omega
     ·have:=aBO hw.high f2 m hm; omega
     ·have:=aBO hw.low (n:=-l2) (by omega) m hm; omega),À]
    have hnl:=aTE w.1 (l:=aso w (l1,l2)) (by rw[hll]; omega);have hsm:=aWY hw (l:=aso w (l1,l2));unfold aTg;generalize aGk w.1 (aso w (l1,l2))=ds at hnl hsm ⊢;refine(Ĺ ds (fun d=>ajf (aCg w d) (l1,l2)==3) (fun z30=>some ((!(ige z30 (0:Int))),(0:Int))) (some (false,0)) (some (true,0)) (fun j=>by rw[show ige (j:Int) 0=true from decide_eq_true (by omega)]; rfl) (fun i d hi hd kn=>?_) (fun kn=>?_)).trans ?_
    ·try dsimp only
     unfold agU;rw[Ö hi,Ë hd,show Ŕ ((w.1.1,w.1.2),(w.2.1.1,w.2.1.2.1,w.2.1.2.2),w.2.2.1,w.2.2.2.1,w.2.2.2.2) d=Ŕ w d from rfl,aWk hw (hsm d (List.mem_of_getElem? hd)),À,aH7,À,Ñ hi (by omega),Ĥ]
    ·try dsimp only
     unfold agU;rw[ã]
    ·rw[show(fun d=>ajf (aCg w d) (l1,l2) != 3)=(fun d=>!(ajf (aCg w d) (l1,l2)==3)) from rfl,←List.not_any_eq_all_not]
     cases ds.any fun d=>ajf (aCg w d) (l1,l2)==3<;>rfl
   ·rw[if_pos hp,if_pos hp,Ú (bne_iff_ne.2 hp)]
end Go.Proofs.ZzM
end
noncomputable section
namespace Go.Proofs.ZzM
open Go Go.Am
def aJD (b:â) (n:Int×Int):Prop:=∃g∈b.2.1,g.1=n.1∧n.2∈á b g
theorem aZ4 {b:â} (h:ę b) {n:Int×Int}:amT b n.1 n.2≠0↔aJD b n:=by
 unfold amT;constructor
 ·intro hne
  cases hx:adA (Î b) n.1 n.2 with
  |none=>rw[hx] at hne; simp at hne
  |some j =>
   have hm:=List.mem_of_getElem? (afh hx).2;unfold Î at hm;obtain⟨g,hg,hd⟩:=List.mem_flatMap.1 hm;obtain⟨d,hd,e⟩:=List.mem_map.1 hd;simp only[Prod.mk.injEq] at e;obtain⟨e1,rfl⟩:=e;exact⟨g,hg,e1,hd⟩
 ·rintro⟨g,hg,e,hd⟩;obtain⟨i,hi,rfl⟩:=List.mem_iff_getElem.1 hg;obtain⟨k,hk,e2⟩:=List.mem_iff_getElem.1 hd;rw[←e,aKb h (List.getElem?_eq_getElem hi) (by rw[List.getElem?_eq_getElem hk,e2])];dsimp only;omega
theorem aXX (b:â) (n:Int×Int) (g:î) {d:Int} (hd:d∈á b g):d∈á (aef b n) g:=by
 unfold á at hd ⊢;rw[aji] at hd ⊢;unfold aMF aef at *;simp only[List.mem_append,List.mem_map,List.mem_filter] at hd ⊢;rcases hd with(h|h)|⟨m,⟨h1,h2⟩,h3⟩
 ·exact .inl (.inl h)
 ·exact .inl (.inr h)
 ·exact .inr ⟨m,⟨.inl h1,h2⟩,h3⟩
theorem aXe {b:â} (n:Int×Int) (h':ę (aef b n)):aJD (aef b n) n:=by
 have hu:=h'.looks n (by simp[aef]);unfold aUA at hu
 split at hu
 ·omega
 obtain⟨g,hg,_⟩:=axr h' hu;obtain⟨hm,e⟩:=ahk hg;refine⟨g,hm,e,?_⟩;unfold á;rw[aji];unfold aMF aef;simp only[List.mem_append,List.mem_map,List.mem_filter];exact .inr ⟨n,⟨.inr (by simp),by simp[e]⟩,rfl⟩
theorem aCc {b:â} {n:Int×Int} (e:(aeD b n).2=0):(aeD b n=(b,0)∧amT b n.1 n.2≠0)∨(aeD b n=(aef b n,0)∧ę (aef b n)∧amT b n.1 n.2=0):=by
 unfold aeD at e ⊢
 split
 ·rename_i h; exact .inl ⟨rfl,h⟩
 ·rename_i h1;rw[if_neg h1] at e
  split
  ·rename_i h2; rw[if_pos h2] at e; exact absurd e h2
  ·rename_i h2; exact .inr ⟨rfl,(ô _).1 (by simpa using h2),by simpa using h1⟩
theorem aND:∀{ns:List (Int×Int)} {b:â},(ō b ns).2=0→∀n,aJD b n→aJD (ō b ns).1 n
 |[],b,_,n,hn=>hn
 |m::t,b,e,n,hn=>by
  unfold ō at e ⊢
  split
  ·rename_i h1; rw[if_pos h1] at e; exact absurd e h1
  ·rename_i h1;rw[if_neg h1] at e;refine aND e n ?_;rcases aCc (by simpa using h1) with⟨h,_⟩|⟨h,_,_⟩
   ·rw[h]; exact hn
   ·rw[h];obtain⟨g,hg,e1,hd⟩:=hn;exact⟨g,hg,e1,aXX b m g hd⟩
theorem aNC:∀{ns:List (Int×Int)} {b:â},ę b→(ō b ns).2=0→∀n∈ns,aJD (ō b ns).1 n
 |[],b,_,_,n,hn=>by simp at hn
 |m::t,b,hg,e,n,hn=>by
  unfold ō at e ⊢
  split
  ·rename_i h1; rw[if_pos h1] at e; exact absurd e h1
  ·rename_i h1;rw[if_neg h1] at e
   have h1':(aeD b m).2=0:=by simpa using h1
   rcases List.mem_cons.1 hn with rfl|hn
   ·refine aND e n ?_;rcases aCc h1' with⟨h,h2⟩|⟨h,h2,_⟩
    ·rw[h]; exact(aZ4 hg).1 h2
    ·rw[h]; exact aXe n h2
   ·exact aNC (aNq hg h1') e n hn
theorem aXf {b:â} {n:Int×Int} {f:Int→Int→Int} {z:Int}:aQU (aef b n) f z↔aQU b f z :=
 ⟨fun h=>⟨fun g hg=>by have:=h.gauge g hg; exact⟨this.hi,this.lo,this.down,this.loss⟩,h.cmp⟩,fun h=>⟨fun g hg=>by have:=h.gauge g hg; exact⟨this.hi,this.lo,this.down,this.loss⟩,h.cmp⟩⟩
theorem aNE:∀{ns:List (Int×Int)} {b:â},(ō b ns).2=0→∀{f:Int→Int→Int} {z:Int},aQU (ō b ns).1 f z↔aQU b f z
 |[],b,_,f,z=>Iff.rfl
 |m::t,b,e,f,z=>by
  unfold ō at e ⊢
  split
  ·rename_i h1; rw[if_pos h1] at e; exact absurd e h1
  ·rename_i h1;rw[if_neg h1] at e;rw[aNE e];rcases aCc (by simpa using h1) with⟨h,_⟩|⟨h,_,_⟩
   ·rw[h]
   ·rw[h]; exact aXf
section
variable {B:â} (h:a0T B)
include h
end
structure Asked (b:â) (ns:List (Int×Int)) (B:â):Prop where
 room:a0T B
 nodes:∀n∈ns,aJD B n
 hist:∀{f:Int→Int→Int} {z:Int},aQU B f z↔aQU b f z
 good:ę b
 gauges:B.2.1=b.2.1
theorem axo {b:â} (hI:In b) {ns:List (Int×Int)} (e:(ú b ns).2=0):Asked b ns (ú b ns).1:=by
 obtain⟨h1,h2,h3,h4⟩:=afz hI e;exact⟨h1,by rw[h2]; exact aNC h4 h3,by rw[h2]; exact aNE h3,h4,by rw[h2]; exact alT h3⟩
def aJw (c:Cmp):Bool:=decide (c.2.2.1.length≤10)&&decide (c.2.2.2.1.length≤10)
theorem aYx (c:Cmp):aqo c=some (aJw c):=by
 unfold aqo axt aJw;rw[ç,ç,Ĥ]
 by_cases h:c.2.2.1.length≤10
 ·rw[if_pos (by simp[ile]; omega)];simp[ile,h];omega
 ·rw[if_neg (by simp[ile]; omega)];simp[h]
def fewP (b:â):Bool :=
 !((b.2.2.2.2.1.take 50).any fun c=>!aJw c)&&(decide (b.2.1.length≤14)&&(decide (b.2.2.1.length≤45)&&(decide (b.2.2.2.1.length≤14)&&(decide (b.2.2.2.2.1.length≤42)&&decide (b.2.2.2.2.2.length≤12)))))
theorem few_ok (b:â):aBX b=some (fewP b):=by
 unfold aBX aKj
 have last:(ifb (ile (Û b.2.1) (14:Int)) (ifb (ile (Û b.2.2.1) (45:Int)) (ifb (ile (Û b.2.2.2.1) (14:Int)) (ifb (ile (Û b.2.2.2.2.1) (42:Int)) (some (ile (Û b.2.2.2.2.2) (12:Int))) (some false)) (some false)) (some false)) (some false)) =
  some (decide (b.2.1.length≤14)&&(decide (b.2.2.1.length≤45)&&(decide (b.2.2.2.1.length≤14)&&(decide (b.2.2.2.2.1.length≤42)&&decide (b.2.2.2.2.2.length≤12))))):=by
  have e:∀(n m:Nat),ile (n:Int) (m:Int)=decide (n≤m):=fun n m=>by simp[ile]
  rw[ç,ç,ç,ç,ç,show(14:Int)=((14:Nat):Int) from rfl,show(45:Int)=((45:Nat):Int) from rfl,show(42:Int)=((42:Nat):Int) from rfl,show(12:Int)=((12:Nat):Int) from rfl,e,e,e,e,e];generalize decide (b.2.1.length≤14)=x1;generalize decide (b.2.2.1.length≤45)=x2;generalize decide (b.2.2.2.1.length≤14)=x3;generalize decide (b.2.2.2.2.1.length≤42)=x4
  cases x1<;>cases x2<;>cases x3<;>cases x4<;>rfl
 rw[last];refine Eq.trans (Ĺ (b.2.2.2.2.1.take 50) (fun c=>!aJw c) (fun _=>some false) (some false) (some (decide (b.2.1.length≤14)&&(decide (b.2.2.1.length≤45)&&(decide (b.2.2.2.1.length≤14)&&(decide (b.2.2.2.2.1.length≤42)&&decide (b.2.2.2.2.2.length≤12)))))) (fun _=>rfl) (fun i c hi hc kn=>?_) (fun kn=>?_)) ?_
 ·try dsimp only
  unfold al0;rw[List.length_take] at hi
  have hc':b.2.2.2.2.1[i]?=some c:=by rw[List.getElem?_take] at hc; split at hc<;>simp_all
  rw[Ö (show i<b.2.2.2.2.1.length by omega),Ú (decide_eq_true (by omega)),Ë hc',aYx,À,Ø (by omega) (by omega),Ĥ]
 ·try dsimp only
  unfold al0;rw[List.length_take,Ĥ]
  split
  ·rename_i h
   have h':50<b.2.2.2.2.1.length:=by rw[ç] at h; simp[ilt] at h; omega
   rw[Õ (decide_eq_false (by omega))]
  ·rfl
 ·unfold fewP
  cases List.any (List.take 50 b.2.2.2.2.1) (fun c=>!aJw c)<;>rfl
theorem a0c {b:â} (h:fewP b=true):Ż b:=by
 simp only[fewP,Bool.and_eq_true,Bool.not_eq_true',decide_eq_true_eq] at h;obtain⟨h0,h1,h2,h3,h4,h5⟩:=h;refine⟨by omega,by omega,by omega,by omega,by omega,fun c hc=>?_⟩;rw[List.take_of_length_le (by omega)] at h0;have:=List.any_eq_false.1 h0 c hc;simp[aJw] at this;omega
end Go.Proofs.ZzM
end
noncomputable section
namespace Go.Proofs.ZzM
open Go Go.Am
section
variable {L:List Lk} {N:Nat} {x y H G:Int}
theorem a0g (h:ņ L N) (ht:atC L N) (ho:Ĩ L N=true) {s t:Int} (hs:0≤s∧s<N) (hv:0≤t∧t<N):∃vs,Wl L (fun u=>u=s) vs t (dst L N s t):=by
 have h2:=h.n60;obtain⟨p,hp⟩:=(Ř h.links (by omega)).1 ho;obtain⟨vs,hw⟩:=(aek h.links (by omega) hp hs).att t hv.1 hv.2 (aT3 h ht ho hs hv);exact⟨vs,aOg.1 hw⟩
theorem a16 (h:ņ L N) (ho:Ĩ L N=true) {s t d:Int} (hs:0≤s∧s<N) {vs:List Int} (hw:Wl L (fun u=>u=s) vs t d):dst L N s t≤d:=by
 have h2:=h.n60;obtain⟨p,hp⟩:=(Ř h.links (by omega)).1 ho;exact(aek h.links (by omega) hp hs).low t vs d (aOg.2 hw)
end
end Go.Proofs.ZzM
end
noncomputable section
namespace Go.Proofs.ZzM
open Go Go.Am
inductive Wk (L:List Lk) (to:Int):Nat→Int→Int→Prop
 |nil:Wk L to 0 to 0
 |step {k:Nat} {v w m d:Int}:(v,w,m)∈L→Wk L to k w d→Wk L to (k+1) v (m+d)
section
variable {L:List Lk} {N:Nat}
theorem Wk.snoc {u v m:Int} (hl:(u,v,m)∈L):∀{k:Nat} {s d:Int},Wk L u k s d→Wk L v (k+1) s (d+m):=by
 intro k s d h
 induction h with
 |nil =>
  have:=Wk.step hl (Wk.nil (L:=L) (to:=v))
  have e:m+0=0+m:=by omega
  rw[e] at this;exact this
 | @step k a w m' d h1 h2 ih =>
  have:=Wk.step h1 ih
  have e:m'+(d+m)=m'+d+m:=by omega
  rw[e] at this;exact this
theorem Wl.front {s w m:Int} (hl:(s,w,m)∈L) {vs:List Int} {t d:Int} (h:Wl L (fun u=>u=w) vs t d):Wl L (fun u=>u=s) (vs++[s]) t (m+d):=by
 induction h with
 | @nil v hv =>
  have hv':v=w:=hv;subst hv';have:=Wl.step (Wl.nil (L:=L) (S:=fun u=>u=s) rfl) hl
  have e:0+m=m+0:=by omega
  rw[e] at this;exact this
 | @step vs u v m' d h1 h2 ih =>
  have:=Wl.step ih h2
  have e:m+d+m'=m+(d+m'):=by omega
  rw[e] at this;exact this
theorem Wk.wl {t:Int} {k:Nat} {s d:Int} (h:Wk L t k s d):∃vs,vs.length=k∧Wl L (fun u=>u=s) vs t d:=by
 induction h with
 |nil=>exact⟨[],rfl,.nil rfl⟩
 | @step k v w m d h1 h2 ih =>
  obtain⟨vs,e,h⟩:=ih;exact⟨vs++[v],by simp[e],h.front h1⟩
theorem aZX {P:Int→Prop} {B:Int} (h:∃d,P d) (hB:∀d,P d→B≤d):∃d,P d∧∀e,P e→d≤e:=by
 obtain⟨d0,h0⟩:=h
 have:∀(n:Nat) (d:Int),P d→(d-B).toNat≤n→∃d,P d∧∀e,P e→d≤e:=by
  intro n
  induction n with
  |zero=>intro d hd hn; exact⟨d,hd,fun e he=>by have:=hB e he; have:=hB d hd; omega⟩
  |succ n ih =>
   intro d hd hn
   by_cases hx:∃e,P e∧e<d
   ·obtain⟨e,he,hl⟩:=hx;exact ih e he (by have:=hB e he; omega)
   ·exact⟨d,hd,fun e he=>by
     rcases Int.lt_or_le e d with q|q
     ·exact absurd ⟨e,he,q⟩ hx
     ·exact q⟩
 exact this _ d0 h0 (Nat.le_refl _)
theorem Wl.cutK {S:Int→Prop} {vs:List Int} {u d:Int} (h:Wl L S vs u d):∀x∈u::vs,∃vs1 d1 k d2,Wl L S vs1 x d1∧(x::vs1) <:+ (u::vs)∧Wk L u k x d2∧d=d1+d2∧k≤vs.length:=by
 induction h with
 | @nil v hv =>
  intro x hx;simp at hx;subst hx;exact⟨[],0,0,0,.nil hv,List.suffix_refl _,.nil,by omega,by simp⟩
 | @step vs u v m d hw hl ih =>
  intro x hx;rcases List.mem_cons.1 hx with rfl|hx
  ·exact⟨u::vs,d+m,0,0,.step hw hl,List.suffix_refl _,.nil,by omega,by simp⟩
  ·obtain⟨vs1,d1,k,d2,g1,g2,g3,g4,g5⟩:=ih x hx;exact⟨vs1,d1,k+1,d2+m,g1,g2.trans (List.suffix_cons _ _),g3.snoc hl,by omega,by simp; omega⟩
theorem aIB (hS:ņ L N) (hno:Ĩ L N=false):∃(k:Nat) (v d:Int),1≤k∧k≤N∧(0≤v∧v<N)∧Wk L v k v d∧d<0:=by
 have hn:=hS.n60;apply Classical.byContradiction;intro hc
 have hcl:∀{k:Nat} {v d:Int},1≤k→k≤N→(0≤v∧v<N)→Wk L v k v d→0≤d:=fun {k v d} h1 h2 h3 h4=>by
  rcases Int.lt_or_le d 0 with q|q
  ·exact absurd ⟨k,v,d,h1,h2,h3,h4,q⟩ hc
  ·exact q
 have hinr:∀l∈L,-4503599627370496≤l.2.2:=fun l hl=>(hS.most l hl).1
 let P:Int→Int→Prop:=fun v d=>∃vs,Wl L (fun u=>0≤u∧u<N) vs v d∧(v::vs).Nodup
 have hP:∀v:Int,0≤v∧v<N→∃d,P v d∧∀e,P v e→d≤e:=fun v hv=>aZX (B:=-(60*4503599627370496)) ⟨0,[],.nil hv,by simp⟩ (by
  rintro d ⟨vs,h1,h2⟩;have q1:=h1.lowM hinr;have q2:=h1.short hS.inr (fun w hw=>hw) h2
  have:((vs.length:Nat):Int)*4503599627370496≤60*4503599627370496:=by omega
  omega)
 have ho:Ĩ L N=true:=by
  refine(Ř hS.links (by omega)).2 ⟨fun v=>if hv:0≤v∧v<(N:Int) then Classical.choose (hP v hv) else 0,fun u v m hl=>?_⟩;have hr:=hS.inr _ hl;dsimp only at hr;obtain⟨⟨vs,hw,hnd⟩,hu2⟩:=Classical.choose_spec (hP u hr.1);obtain⟨_,hv2⟩:=Classical.choose_spec (hP v hr.2);have e1:(if hv:0≤u∧u<(N:Int) then Classical.choose (hP u hv) else 0)=Classical.choose (hP u hr.1):=dif_pos hr.1;have e2:(if hv:0≤v∧v<(N:Int) then Classical.choose (hP v hv) else 0)=Classical.choose (hP v hr.2):=dif_pos hr.2;dsimp only;rw[e1,e2];generalize Classical.choose (hP u hr.1)=a at *;generalize Classical.choose (hP v hr.2)=b at *
  by_cases hv:v∈u::vs
  ·obtain⟨vs1,d1,k,d2,g1,g2,g3,g4,g5⟩:=hw.cutK v hv;have hlen:=hw.short hS.inr (fun w hw=>hw) hnd;have:=hcl (by omega) (by omega) hr.2 (g3.snoc hl);have:=hv2 d1 ⟨vs1,g1,hnd.sublist g2.sublist⟩;omega
  ·have:=hv2 (a+m) ⟨u::vs,hw.step hl,List.nodup_cons.2 ⟨hv,hnd⟩⟩;omega
 rw[hno] at ho;cases ho
end
end Go.Proofs.ZzM
end
noncomputable section
namespace Go.Proofs.ZzM
open Go Go.Am
theorem aVz {b:â} (h:In b) (n:Int×Int) (upper:Bool):In (aig b n upper).1.1:=by
 have h0:In afw:=⟨⟨by simp[afw],by simp[afw],by simp[afw],by simp[afw],by simp[afw],by simp[afw]⟩,by simp[afw]⟩;unfold aig
 by_cases e:(ú b [n]).2=0
 ·rw[if_neg (by simp[e])];have hr:=(afz h e).1
  split
  ·exact h0
  ·split
   ·exact a1f (hr.good.inn hr.num) _ (by simp)
   ·exact h0
 ·rw[if_pos e]; exact h0
theorem y1:adW exB (2,10)=((984,1011),0):=by decide +kernel
theorem y2:adW exB (1,30)=((964,1005),0):=by decide +kernel
theorem y3:af9 exB (1,10) (2,10)=((-6,11),0):=by decide +kernel
theorem y4:a2s exB 10 [1,2]=((1979,2018),0):=by decide +kernel
theorem y5:aY4 exB (2,0) (990,1010)=(3,0):=by decide +kernel
theorem y6:(aig exB (2,10) true).2=0∧(aig exB (2,10) true).1.2.2.2.1=1011:=by decide +kernel
theorem y7:aUp exB (2,10) exC=(10,0):=by decide +kernel
theorem y8:aB4 exB (2,10) (900,1100) exC=(true,0):=by decide +kernel
theorem y9:aSQ exB (aig exB (2,10) true).1=(true,0):=by decide +kernel
theorem y10:é exB=0∧Ĩ (ä exB) ((Î exB).length+1)=true:=by decide +kernel
theorem y11:aiu (aig exB (2,10) true).1=0:=by decide +kernel
theorem aUI:Ï=some true:=by
 unfold Ï asF apC aog;have hc:=aVz apL (2,10) true
 have hv:I64 (aig exB (2,10) true).1.2.2.2.1:=by rw[y6.2]; unfold I64; omega
 rw[À];rw[show((((0:Int),(2:Int)),[((1:Int),(0:Int),(1000:Int),((-5:Int),(5:Int)),((1:Int),(10:Int)),(1:Int)),((2:Int),(0:Int),(1000:Int),((-50:Int),(50:Int)),((1:Int),(4:Int)),(0:Int))],[((1:Int),(10:Int))],[((1:Int),((20:Int),(29:Int)),(3:Int))],[((7:Int),(10:Int),[(1:Int)],[(2:Int)],(-20:Int),(1:Int),(100:Int),(200:Int))],([]:List (Int×Int))):â)=exB from rfl];rw[atD apL,À,atD apL,À,aJE apL,À,a2r apL _ (by decide),À,a00 apL,À,aVZ apL,À,y1,y2,y3,y4,y5,y6.1,y6.2]
 rw[show apF exB ((2:Int),(10:Int)) ((8:Int),(10:Int),[(1:Int)],[(2:Int)],(0:Int),(0:Int),(0:Int),(0:Int))=some (aUp exB (2,10) exC) from a0O apL _ (c:=exC) (by decide) (by decide),
  show ai3 exB ((2:Int),(10:Int)) ((900:Int),(1100:Int)) ((8:Int),(10:Int),[(1:Int)],[(2:Int)],(0:Int),(0:Int),(0:Int),(0:Int))=some (aB4 exB (2,10) (900,1100) exC) from aVR apL _ _ (c:=exC) (by decide) (by decide),
  aYL apL hc hv,aQ8 ((ô _).1 y10.1) apL.num y10.2,aAr hc hv,y7,y8,y9,y11]
 rfl
end Go.Proofs.ZzM
end
noncomputable section
namespace Go.Proofs.ZzM
open Go Go.Am
theorem aCh {L:List Lk} {N:Nat} {v:Int} (h0:0≤v) (h1:v<N):gv (solP L N) v=gv (Į L N) v-gv (Į L N) 0:=by
 have hl:(Į L N).length=N:=by unfold Į; rw[ĥ,ý]
 have h2:v.toNat<(Į L N).length:=by omega
 unfold solP;generalize gv (Į L N) 0=z;unfold gv;rw[List.getElem?_map,List.getElem?_eq_getElem h2];rfl
theorem aZu {L:List Lk} {N:Nat} (h:ņ L N) (ho:Ĩ L N=true):Pot L (gv (solP L N))∧gv (solP L N) 0=0:=by
 have h2:=h.n60;have h1:=h.n1;obtain⟨p,hp⟩:=(Ř h.links (by omega)).1 ho;refine⟨fun u v m hl=>?_,by rw[aCh (by omega) (by omega)]; omega⟩;have hr:=h.inr _ hl
 have hlen:(Į L N).length=N:=by unfold Į; rw[ĥ,ý]
 have hu:gv (Į L N) u≤0:=(aJK h.links (by omega) ho _ (List.mem_of_getElem? (aJa (by omega)))).2;have:=(ap3 h.links (by omega) hp).pot h.inr hl (by show gv (Į L N) u≠Ľ; unfold Ľ; omega);have e1:=aCh (L:=L) hr.1.1 hr.1.2;have e2:=aCh (L:=L) hr.2.1 hr.2.2;dsimp only at e1 e2;have e:gv (Į L N) v≤gv (Į L N) u+m:=this;omega
section
variable {B:â} (h:a0T B)
include h
end
end Go.Proofs.ZzM
end
noncomputable section
namespace Go.Proofs.ZzM
open Go Go.Am
def aGc (N:Nat) (g:Int→Int):List Int:=(List.range N).map fun(v:Nat)=>g v
def aqY (N:Nat) (f:Int→Int→Int):List (List Int):=(List.range N).map fun(u:Nat)=>aGc N (f u)
section
variable {N:Nat} {ρ:Type}
theorem aZC (g:Int→Int):(aGc N g).length=N:=by simp[aGc]
theorem aZp (f:Int→Int→Int):(aqY N f).length=N:=by simp[aqY]
theorem ahQ (g:Int→Int):Đ (aGc N g)=(N:Int):=by unfold Đ; rw[aZC]
theorem alX (f:Int→Int→Int):Đ (aqY N f)=(N:Int):=by unfold Đ; rw[aZp]
theorem aTk (g:Int→Int) {v:Int} (h0:0≤v) (h1:v<N):(aGc N g)[v.toNat]?=some (g v):=by
 unfold aGc;rw[List.getElem?_map,List.getElem?_range (by omega),Option.map_some,show((v.toNat:Nat):Int)=v by omega]
theorem aTc (f:Int→Int→Int) {u:Int} (h0:0≤u) (h1:u<N):(aqY N f)[u.toNat]?=some (aGc N (f u)):=by
 unfold aqY;rw[List.getElem?_map,List.getElem?_range (by omega),Option.map_some,show((u.toNat:Nat):Int)=u by omega]
theorem ajp (f:Int→Int→Int) {u:Int} (h0:0≤u) (h1:u<N) (K:List Int→Option ρ):Ň (aqY N f) u.toNat K=K (aGc N (f u)):=afA (aTc f h0 h1) K
theorem agQ (g:Int→Int) {v:Int} (h0:0≤v) (h1:v<N) (K:Int→Option ρ):Ň (aGc N g) v.toNat K=K (g v):=afA (aTk g h0 h1) K
theorem aJO {g g':Int→Int} (h:∀v:Int,0≤v→v<N→g v=g' v):aGc N g=aGc N g':=by
 unfold aGc;refine List.map_congr_left fun v hv=>?_;have:=List.mem_range.1 hv;exact h v (by omega) (by omega)
theorem ake {f f':Int→Int→Int} (h:∀u v:Int,0≤u→u<N→0≤v→v<N→f u v=f' u v):aqY N f=aqY N f':=by
 unfold aqY;refine List.map_congr_left fun u hu=>?_;have:=List.mem_range.1 hu;exact aJO fun v h0 h1=>h u v (by omega) (by omega) h0 h1
theorem aWo {α:Type} (F:Nat→α) (N i:Nat) (x:α):((List.range N).map F).set i x=(List.range N).map fun j=>if j=i then x else F j:=by
 refine List.ext_getElem? fun j=>?_;rw[List.getElem?_set,List.getElem?_map,List.getElem?_map];rcases Nat.lt_or_ge j N with hj|hj
 ·rw[List.getElem?_range hj]
  by_cases h:i=j
  ·subst h;rw[if_pos rfl,if_pos (by simpa using hj)];simp
  ·rw[if_neg h];simp[Ne.symm h]
 ·rw[List.getElem?_eq_none (l:=List.range N) (by simpa using hj)]
  by_cases h:i=j
  ·subst h;rw[if_pos rfl,if_neg (by simp; omega)];rfl
  ·rw[if_neg h];rfl
theorem aQ5 (g:Int→Int) {v:Int} (h0:0≤v) (x:Int):(aGc N g).set v.toNat x=aGc N fun b=>if b=v then x else g b:=by
 unfold aGc;rw[aWo];refine List.map_congr_left fun j _=>?_
 by_cases h:j=v.toNat
 ·rw[if_pos h]; exact(if_pos (by omega)).symm
 ·rw[if_neg h]; exact(if_neg (by omega)).symm
theorem aWn (f:Int→Int→Int) {u v:Int} (h0:0≤u) (h1:0≤v) (x:Int):(aqY N f).set u.toNat ((aGc N (f u)).set v.toNat x)=aqY N fun a b=>if a=u∧b=v then x else f a b:=by
 rw[aQ5 _ h1];unfold aqY;rw[aWo];refine List.map_congr_left fun j _=>?_
 by_cases h:j=u.toNat
 ·have hj:(j:Int)=u:=by omega
  rw[if_pos h,hj];congr 1;funext b
  by_cases hb:b=v<;>simp[hb]
 ·rw[if_neg h];congr 1;funext b;exact(if_neg (by omega)).symm
end
inductive WI (L:List Lk) (k u:Int):Int→Int→Prop
 |nil:WI L k u u 0
 |one {v m:Int}:(u,v,m)∈L→WI L k u v m
 |step {w v d m:Int}:WI L k u w d→0≤w→w<k→(w,v,m)∈L→WI L k u v (d+m)
section
variable {L:List Lk} {N:Nat} {k u:Int}
theorem WI.mono {k':Int} (hk:k≤k') {v d:Int} (h:WI L k u v d):WI L k' u v d:=by
 induction h with
 |nil=>exact .nil
 |one h=>exact .one h
 |step _ h0 h1 h2 ih=>exact ih.step h0 (by omega) h2
theorem WI.app {w v d e:Int} (h1:WI L k u w d) (h2:WI L k w v e) (h0:0≤w) (hk:w<k):WI L k u v (d+e):=by
 induction h2 with
 |nil=>rw[Int.add_zero]; exact h1
 |one h=>exact h1.step h0 hk h
 | @step x v e m _ g0 g1 g2 ih =>
  have:=ih.step g0 g1 g2;rw[Int.add_assoc] at this;exact this
theorem WI.wl {v d:Int} (h:WI L k u v d):∃vs,Wl L (fun x=>x=u) vs v d:=by
 induction h with
 |nil=>exact⟨[],.nil rfl⟩
 | @one v m h =>
  have:=Wl.step (Wl.nil (L:=L) (S:=fun x=>x=u) rfl) h;rw[Int.zero_add] at this;exact⟨_,this⟩
 |step _ _ _ h2 ih =>
  obtain⟨vs,h⟩:=ih;exact⟨_,h.step h2⟩
theorem WI.of_wl (hL:InR L N) (hk:(N:Int)≤k) {vs:List Int} {v d:Int} (h:Wl L (fun x=>x=u) vs v d):WI L k u v d:=by
 induction h with
 |nil h =>
  obtain rfl:=h;exact .nil
 | @step vs w v m d _ h2 ih =>
  have:=(hL _ h2).1;exact ih.step this.1 (by dsimp only at this; omega) h2
theorem WI.of_wk (hL:InR L N) (hk:(N:Int)≤k) {n:Nat} {v d:Int} (h:Wk L v n u d):WI L k u v d:=by
 obtain⟨vs,_,h⟩:=h.wl;exact .of_wl hL hk h
theorem Wl.shorten {S:Int→Prop} {vs:List Int} {v d:Int} (h:Wl L S vs v d):∃vs' d',Wl L S vs' v d'∧(v::vs').Nodup:=by
 have h1:∀{vs:List Int} {v d:Int},Wl L S vs v d→Wl (L.map fun l=>(l.1,l.2.1,0)) S vs v 0:=fun h=>by
  induction h with
  |nil h=>exact .nil h
  | @step vs w v m d _ h2 ih =>
   have:=ih.step (v:=v) (m:=0) (List.mem_map.2 ⟨_,h2,rfl⟩);exact this
 have h2:∀{vs:List Int} {v d:Int},Wl (L.map fun l=>(l.1,l.2.1,0)) S vs v d→∃d',Wl L S vs v d':=fun h=>by
  induction h with
  |nil h=>exact⟨0,.nil h⟩
  | @step vs w v m d _ h2 ih =>
   obtain⟨d',h⟩:=ih;obtain⟨l,hl,e⟩:=List.mem_map.1 h2;obtain⟨a,b,c⟩:=l;simp only[Prod.mk.injEq] at e;obtain⟨rfl,rfl,rfl⟩:=e;exact⟨_,h.step hl⟩
 obtain⟨vs',d',g1,_,g3⟩:=(h1 h).simple (p:=fun _=>0) (fun a b m hm=>by
  obtain⟨l,_,e⟩:=List.mem_map.1 hm;simp only[Prod.mk.injEq] at e;dsimp only
  omega)
 obtain⟨d'',g4⟩:=h2 g1;exact⟨vs',d'',g4,g3⟩
def aUK (L:List Lk) (k u v:Int):List Lk:=L.filter fun l=>(l.1==u||(decide (0≤l.1)&&decide (l.1<k)))&&(l.2.1==v||(decide (0≤l.2.1)&&decide (l.2.1<k)))
theorem akN {v:Int} {l:Lk}:l∈aUK L k u v↔l∈L∧(l.1=u∨(0≤l.1∧l.1<k))∧(l.2.1=v∨(0≤l.2.1∧l.2.1<k)):=by
 unfold aUK;rw[List.mem_filter];simp
theorem WI.rest (v:Int) {w d:Int} (h:WI L k u w d):(w=v∨(0≤w∧w<k))→∃vs,Wl (aUK L k u v) (fun x=>x=u) vs w d:=by
 induction h with
 |nil=>exact fun _=>⟨[],.nil rfl⟩
 | @one w m h =>
  intro hw;have:=Wl.step (Wl.nil (L:=aUK L k u v) (S:=fun x=>x=u) rfl) (akN.2 ⟨h,.inl rfl,hw⟩);rw[Int.zero_add] at this;exact⟨_,this⟩
 | @step x w d m _ h0 h1 h2 ih =>
  intro hw;obtain⟨vs,h⟩:=ih (.inr ⟨h0,h1⟩);exact⟨_,h.step (akN.2 ⟨h2,.inr ⟨h0,h1⟩,hw⟩)⟩
theorem WI.of_rest {v:Int} {vs:List Int} {w d:Int} (h:Wl (aUK L k u v) (fun x=>x=u) vs w d):v∉vs→WI L k u w d:=by
 induction h with
 |nil h =>
  obtain rfl:=h;exact fun _=>.nil
 | @step vs x w m d h1 h2 ih =>
  intro hv;obtain⟨g1,g2,g3⟩:=akN.1 h2;have ih':=ih fun h=>hv (by simp[h]);have hxv:x≠v:=fun e=>hv (by simp[e])
  cases h1 with
  |nil h =>
   obtain rfl:=h;rw[Int.zero_add];exact .one g1
  |step h3 h4 =>
   obtain⟨_,_,g4⟩:=akN.1 h4;rcases g4 with g4|g4
   ·exact absurd g4 hxv
   ·exact ih'.step g4.1 g4.2 g1
theorem WI.high (hS:ņ L N) {v d:Int} (hu:0≤u∧u<N) (h:WI L k u v d):∃d',WI L k u v d'∧d'≤270215977642229760:=by
 have hn:=hS.n60;obtain⟨vs,hw⟩:=h.rest v (.inl rfl);obtain⟨vs',d',h1,h2⟩:=hw.shorten;have hin:InR (aUK L k u v) N:=fun l hl=>hS.inr l (akN.1 hl).1;have hlen:=h1.short hin (fun w hw=>by rw[hw]; exact hu) h2;have hhi:=h1.high (M:=4503599627370496) fun l hl=>(hS.most l (akN.1 hl).1).2;refine⟨d',.of_rest h1 (List.nodup_cons.1 h2).1,?_⟩;omega
def aU9 (L:List Lk) (k:Int):List Lk:=L.filter fun l=>decide (l.1<k)&&decide (l.2.1<k)
theorem aMk {l:Lk}:l∈aU9 L k↔l∈L∧l.1<k∧l.2.1<k:=by
 unfold aU9;rw[List.mem_filter];simp
theorem aTJ (hS:ņ L N):ņ (aU9 L k) N:=hS.sub (fun l hl=>(aMk.1 hl).1) (List.length_filter_le _ _)
theorem WI.of_low (hS:ņ L N) {v d:Int} {n:Nat} (h:Wk (aU9 L k) v n u d):WI L k u v d:=by
 obtain⟨vs,_,hw⟩:=h.wl;clear h;rename_i hlen;clear hlen
 induction hw with
 |nil h =>
  obtain rfl:=h;exact .nil
 | @step vs w v m d _ h2 ih =>
  obtain⟨g1,g2,g3⟩:=aMk.1 h2;have:=(hS.inr _ g1).1;exact ih.step this.1 g2 g1
theorem aZS (hS:ņ L N) (hc:∀v d:Int,0≤v→v<N→WI L k v v d→0≤d):Ĩ (aU9 L k) N=true:=by
 cases ho:Ĩ (aU9 L k) N with
 |true=>rfl
 |false =>
  obtain⟨n,v,d,_,_,h3,h4,h5⟩:=aIB (aTJ hS) ho;have:=hc v d h3.1 h3.2 (.of_low hS h4);omega
theorem WI.low (hS:ņ L N) (hc:∀v d:Int,0≤v→v<N→WI L k v v d→0≤d) {v d:Int} (h:WI L k u v d) : -2314850208468434944≤d:=by
 have hn:=hS.n60;have ho:=aZS hS hc;have hs:=aTJ (k:=k) hS;have hbd:=aJK hs.links (by omega) ho;obtain⟨hp,_⟩:=aZu hs ho
 let p:Int→Int:=fun v=>if 0≤v∧v<N then gv (Į (aU9 L k) N) v else 0
 have hlen:(Į (aU9 L k) N).length=N:=by unfold Į; rw[ĥ,ý]
 have hpb:∀v,-2305843009213693952≤p v∧p v≤0:=fun v=>by
  show -2305843009213693952≤(if 0≤v∧v<N then gv (Į (aU9 L k) N) v else 0)∧(if 0≤v∧v<N then gv (Į (aU9 L k) N) v else 0)≤0
  split
  ·rename_i hv;exact hbd _ (List.mem_of_getElem? (aJa (by omega)))
  ·omega
 have hpp:∀a b m,(a,b,m)∈aU9 L k→p b≤p a+m:=fun a b m hl=>by
  have hr:=hs.inr _ hl;dsimp only at hr;have:=hp a b m hl;rw[aCh hr.1.1 hr.1.2,aCh hr.2.1 hr.2.2] at this;show(if 0≤b∧b<N then gv (Į (aU9 L k) N) b else 0)≤(if 0≤a∧a<N then gv (Į (aU9 L k) N) a else 0)+m;rw[if_pos hr.1,if_pos hr.2];omega
 have key:∀{v d:Int},WI L k u v d→(v<k→p v-4503599627370496≤d)∧-2314850208468434944≤d:=fun {v d} h=>by
  induction h with
  |nil=>have:=hpb u; exact⟨fun _=>by omega,by omega⟩
  | @one v m h =>
   have:=hpb v;have:=(hS.most _ h).1;dsimp only at this;exact⟨fun _=>by omega,by omega⟩
  | @step w v d m _ h0 h1 h2 ih =>
   have hm:=(hS.most _ h2).1;dsimp only at hm;have hi:=ih.1 h1;have hw:=hpb w;refine⟨fun hv=>?_,by omega⟩;have:=hpp w v m (aMk.2 ⟨h2,h1,hv⟩);omega
 exact(key h).2
def lkF (f:Int→Int→Int) (l:Lk):Int→Int→Int:=fun a b=>if a=l.1∧b=l.2.1 then min (f l.1 l.2.1) l.2.2 else f a b
def aSn (a b:Int):Int:=if a=b then 0 else Ľ
def upF (f:Int→Int→Int) (k:Int):Int→Int→Int:=fun a b=>if f a k=Ľ then f a b else if f k b=Ľ then f a b else min (f a b) (f a k+f k b)
def fw (L:List Lk):Nat→Int→Int→Int
 |0=>L.foldl lkF aSn
 |k+1=>upF (fw L k) k
theorem aJg (a b:Int):∀(M:List Lk) (f:Int→Int→Int),(M.foldl lkF f) a b≤f a b∧(∀m,(a,b,m)∈M→(M.foldl lkF f) a b≤m)∧((M.foldl lkF f) a b=f a b∨∃m,(a,b,m)∈M∧(M.foldl lkF f) a b=m)
 |[],f=>⟨Int.le_refl _,fun _ h=>by simp at h,.inl rfl⟩
 |l::M,f=>by
  rw[List.foldl_cons];obtain⟨i1,i2,i3⟩:=aJg a b M (lkF f l)
  have key:lkF f l a b≤f a b∧((a=l.1∧b=l.2.1)→lkF f l a b≤l.2.2)∧(lkF f l a b=f a b∨((a=l.1∧b=l.2.1)∧lkF f l a b=l.2.2)):=by
   unfold lkF
   by_cases h:a=l.1∧b=l.2.1
   ·rw[if_pos h,h.1,h.2];refine⟨by omega,fun _=>by omega,?_⟩
    by_cases hc:f l.1 l.2.1≤l.2.2
    ·exact .inl (by omega)
    ·exact .inr ⟨⟨rfl,rfl⟩,by omega⟩
   ·rw[if_neg h];exact⟨Int.le_refl _,fun h'=>absurd h' h,.inl rfl⟩
  obtain⟨k1,k2,k3⟩:=key;refine⟨by omega,fun m hm=>?_,?_⟩
  ·rcases List.mem_cons.1 hm with h|h
   ·subst h;have:=k2 ⟨rfl,rfl⟩;dsimp only at this;omega
   ·exact i2 m h
  ·rcases i3 with h|⟨m,h,e⟩
   ·rcases k3 with h'|⟨⟨h1,h2⟩,h'⟩
    ·exact .inl (h.trans h')
    ·exact .inr ⟨l.2.2,by rw[h1,h2]; simp,h.trans h'⟩
   ·exact .inr ⟨m,by simp[h],e⟩
structure Tab (L:List Lk) (N:Nat) (k:Nat) (f:Int→Int→Int):Prop where
 att:∀a b:Int,0≤a→a<N→0≤b→b<N→f a b≠Ľ→WI L k a b (f a b)
 le:∀a b s:Int,0≤a→a<N→0≤b→b<N→WI L k a b s→f a b≤s∧f a b≠Ľ
 diag:∀a:Int,0≤a→a<N→f a a=0
theorem Tab.closed {f:Int→Int→Int} {k:Nat} (h:Tab L N k f):∀v d:Int,0≤v→v<N→WI L k v v d→0≤d:=fun v d h0 h1 hw=>by
 have:=(h.le v v d h0 h1 h0 h1 hw).1;rw[h.diag v h0 h1] at this;exact this
theorem Tab.bd (hS:ņ L N) {f:Int→Int→Int} {k:Nat} (h:Tab L N k f) {a b:Int} (ha:0≤a∧a<N) (hb:0≤b∧b<N) (hf:f a b≠Ľ) : -2314850208468434944≤f a b∧f a b≤270215977642229760:=by
 have hw:=h.att a b ha.1 ha.2 hb.1 hb.2 hf;obtain⟨d,hd,hle⟩:=hw.high hS ha;have:=(h.le a b d ha.1 ha.2 hb.1 hb.2 hd).1;exact⟨hw.low hS h.closed,by omega⟩
theorem aZo (hS:ņ L N):Tab L N 0 (fw L 0):=by
 have key:∀a b,(fw L 0 a b≤aSn a b)∧(∀m,(a,b,m)∈L→fw L 0 a b≤m)∧(fw L 0 a b=aSn a b∨∃m,(a,b,m)∈L∧fw L 0 a b=m):=fun a b=>aJg a b L aSn;refine⟨fun a b ha ha' hb hb' hf=>?_,fun a b s ha ha' hb hb' hw=>?_,fun a ha ha'=>?_⟩
 ·rcases(key a b).2.2 with h|⟨m,h,e⟩
  ·rw[h] at hf ⊢;unfold aSn at hf ⊢
   by_cases hab:a=b
   ·subst hab; rw[if_pos rfl]; exact .nil
   ·rw[if_neg hab] at hf; exact absurd rfl hf
  ·rw[e]; exact .one h
 ·have hs:fw L 0 a b≤s∧s≤4503599627370496:=by
   cases hw with
   |nil =>
    have:=(key a a).1;unfold aSn at this;rw[if_pos rfl] at this;omega
   |one h=>exact⟨(key a b).2.1 _ h,(hS.most _ h).2⟩
   |step _ h0 h1 _=>omega
  refine⟨hs.1,fun hF=>?_⟩;rw[hF] at hs;unfold Ľ at hs;omega
 ·rcases(key a a).2.2 with h|⟨m,h,e⟩
  ·rw[h]; unfold aSn; rw[if_pos rfl]
  ·exact absurd rfl (hS.noloop _ h)
theorem aTb (hS:ņ L N) {k:Nat} (hk:k<N) {f:Int→Int→Int} (h:Tab L N k f) :
 (∀a b:Int,0≤a→a<N→0≤b→b<N→upF f k a b≠Ľ→WI L ((k+1:Nat):Int) a b (upF f k a b)) ∧
 (∀a b s:Int,0≤a→a<N→0≤b→b<N→WI L ((k+1:Nat):Int) a b s→upF f k a b≤s∧upF f k a b≠Ľ) ∧
 (∀a:Int,0≤a→a<N→upF f k a a≤0):=by
 have hk0:(0:Int)≤k∧(k:Int)<N:=by omega
 -- the element that a pass gives
 have cases3:∀a b:Int,upF f k a b=f a b∨(f a k≠Ľ∧f k b≠Ľ∧upF f k a b=f a k+f k b):=fun a b=>by
  unfold upF
  by_cases h1:f a k=Ľ
  ·rw[if_pos h1]; exact .inl rfl
  rw[if_neg h1]
  by_cases h2:f k b=Ľ
  ·rw[if_pos h2]; exact .inl rfl
  rw[if_neg h2]
  by_cases h3:f a b≤f a k+f k b
  ·exact .inl (by omega)
  ·exact .inr ⟨h1,h2,by omega⟩
 have lim:∀a b:Int,0≤a→a<N→0≤b→b<N→f a b≤Ľ:=fun a b h0 h1 h2 h3=>by
  by_cases hf:f a b=Ľ
  ·omega
  ·have:=h.bd hS ⟨h0,h1⟩ ⟨h2,h3⟩ hf; unfold Ľ; omega
 have upper:∀a b:Int,upF f k a b≤f a b∧(f a k≠Ľ→f k b≠Ľ→upF f k a b≤f a k+f k b):=fun a b=>by
  unfold upF
  by_cases h1:f a k=Ľ
  ·rw[if_pos h1]; exact⟨Int.le_refl _,fun h'=>absurd h1 h'⟩
  rw[if_neg h1]
  by_cases h2:f k b=Ľ
  ·rw[if_pos h2]; exact⟨Int.le_refl _,fun _ h'=>absurd h2 h'⟩
  rw[if_neg h2];exact⟨by omega,fun _ _=>by omega⟩
 have B:=fun(a b:Int) (h0:0≤a) (h1:a<N) (h2:0≤b) (h3:b<N) (hf:f a b≠Ľ)=>h.bd hS ⟨h0,h1⟩ ⟨h2,h3⟩ hf
 -- if there is a walk, the element is told
 have ne:∀a b:Int,0≤a→a<N→0≤b→b<N→(f a b≠Ľ∨(f a k≠Ľ∧f k b≠Ľ))→upF f k a b≠Ľ:=fun a b h0 h1 h2 h3 hc hF=>by
  have hu:=upper a b;rcases hc with hc|⟨hc1,hc2⟩
  ·have:=B a b h0 h1 h2 h3 hc;rw[hF] at hu;unfold Ľ at hu;omega
  ·have b1:=B a k h0 h1 hk0.1 hk0.2 hc1;have b2:=B k b hk0.1 hk0.2 h2 h3 hc2;have:=hu.2 hc1 hc2;rw[hF] at this;unfold Ľ at this;omega
 have colk:∀a:Int,0≤a→a<N→upF f k a k=f a k:=fun a h0 h1=>by
  have hd:=h.diag k hk0.1 hk0.2;unfold upF;rw[hd]
  split
  ·rfl
  ·rw[if_neg (by decide)]; omega
 refine⟨fun a b h0 h1 h2 h3 hf=>?_,fun a b s h0 h1 h2 h3 hw=>?_,fun a h0 h1=>?_⟩
 ·rcases cases3 a b with e|⟨e1,e2,e⟩
  ·rw[e] at hf ⊢;exact(h.att a b h0 h1 h2 h3 hf).mono (by omega)
  ·rw[e];exact((h.att a k h0 h1 hk0.1 hk0.2 e1).mono (by omega)).app ((h.att k b hk0.1 hk0.2 h2 h3 e2).mono (by omega)) hk0.1 (by omega)
 ·-- by the walk
  have main:∀{v s:Int},WI L ((k+1:Nat):Int) a v s→(0≤v∧v<N)→upF f k a v≤s∧(f a v≠Ľ∨(f a k≠Ľ∧f k v≠Ľ)):=fun {v s} hw=>by
   induction hw with
   |nil =>
    intro hv;have:=h.le a a 0 hv.1 hv.2 hv.1 hv.2 .nil;exact⟨by have:=(upper a a).1; omega,.inl this.2⟩
   | @one v m hl =>
    intro hv;have:=h.le a v m h0 h1 hv.1 hv.2 (.one hl);exact⟨by have:=(upper a v).1; omega,.inl this.2⟩
   | @step w v d m _ g0 g1 g2 ih =>
    intro hv;have hwr:=(hS.inr _ g2).1;dsimp only at hwr;obtain⟨i1,i2⟩:=ih hwr;have hone:=h.le w v m hwr.1 hwr.2 hv.1 hv.2 (.one g2)
    by_cases hwk:w=k
    ·subst hwk;rw[colk a h0 h1] at i1
     have hak:f a k≠Ľ:=by
      rcases i2 with i2|i2
      ·exact i2
      ·exact i2.1
     have:=(upper a v).2 hak hone.2;exact⟨by omega,.inr ⟨hak,hone.2⟩⟩
    ·have hlt:w<k:=by push_cast at g1; omega
     -- one link ð of a walk by nodes below k
     have ext:∀x:Int,0≤x→x<N→f x w≠Ľ→f x v≤f x w+m∧f x v≠Ľ:=fun x hx0 hx1 hf =>
      h.le x v _ hx0 hx1 hv.1 hv.2 ((h.att x w hx0 hx1 hwr.1 hwr.2 hf).step hwr.1 hlt g2)
     rcases cases3 a w with e|⟨e1,e2,e⟩
     ·have hne:f a w≠Ľ:=by
       rcases i2 with i2|⟨i2,i3⟩
       ·exact i2
       ·intro hF;rw[hF] at e;exact ne a w h0 h1 hwr.1 hwr.2 (.inr ⟨i2,i3⟩) e
      have:=ext a h0 h1 hne;exact⟨by have:=(upper a v).1; omega,.inl this.2⟩
     ·have:=ext k hk0.1 hk0.2 e2;have:=(upper a v).2 e1 this.2;exact⟨by omega,.inr ⟨e1,(ext k hk0.1 hk0.2 e2).2⟩⟩
  obtain⟨m1,m2⟩:=main hw ⟨h2,h3⟩;exact⟨m1,ne a b h0 h1 h2 h3 m2⟩
 ·have:=(upper a a).1;have:=h.diag a h0 h1;omega
theorem wi_pot {p:Int→Int} (hp:Pot L p) {v d:Int} (h:WI L k u v d):p v≤p u+d:=by
 induction h with
 |nil=>omega
 |one h=>exact hp _ _ _ h
 |step _ _ _ h2 ih=>have:=hp _ _ _ h2; omega
theorem fw_all (hS:ņ L N):(∃k:Nat,k<N∧Tab L N k (fw L k)∧(∃a:Int,0≤a∧a<N∧fw L (k+1) a a<0)∧∀j,j≤k→Tab L N j (fw L j))∨∀k:Nat,k≤N→Tab L N k (fw L k):=by
 have:∀k:Nat,k≤N→(∃j:Nat,j<k∧Tab L N j (fw L j)∧(∃a:Int,0≤a∧a<N∧fw L (j+1) a a<0)∧∀i,i≤j→Tab L N i (fw L i))∨∀i,i≤k→Tab L N i (fw L i):=by
  intro k
  induction k with
  |zero=>exact fun _=>.inr fun i hi=>by have h0:i=0:=(by omega); subst h0; exact aZo hS
  |succ k ih =>
   intro hk;rcases ih (by omega) with⟨j,h1,h2⟩|h
   ·exact .inl ⟨j,by omega,h2⟩
   ·have hT:=h k (Nat.le_refl _);obtain⟨s1,s2,s3⟩:=aTb hS (by omega) hT
    by_cases hb:∃a:Int,0≤a∧a<N∧fw L (k+1) a a<0
    ·exact .inl ⟨k,by omega,hT,hb,h⟩
    ·refine .inr fun i hi=>?_;rcases Nat.lt_or_eq_of_le hi with hi|rfl
     ·exact h i (by omega)
     ·refine⟨s1,s2,fun a h0 h1=>?_⟩;have:=s3 a h0 h1;rcases Int.lt_or_le (fw L (k+1) a a) 0 with q|q
      ·exact absurd ⟨a,h0,h1,q⟩ hb
      ·have e:fw L (k+1) a a=upF (fw L k) k a a:=rfl;omega
 rcases this N (Nat.le_refl _) with⟨j,h1,h2⟩|h
 ·exact .inl ⟨j,h1,h2⟩
 ·exact .inr h
theorem aZ7 (hS:ņ L N) {j:Nat} (hj:j<N) (hT:Tab L N j (fw L j)) (hb:∃a:Int,0≤a∧a<N∧fw L (j+1) a a<0):Ĩ L N=false:=by
 have hn:=hS.n60;obtain⟨a,h0,h1,h2⟩:=hb;rw[Bool.eq_false_iff];intro ho;obtain⟨p,hp⟩:=(Ř hS.links (by omega)).1 ho;obtain⟨s1,_,_⟩:=aTb hS hj hT;have e:fw L (j+1) a a=upF (fw L j) j a a:=rfl;rw[e] at h2;have:=wi_pot hp (s1 a a h0 h1 h0 h1 (by unfold Ľ; omega));omega
theorem aXD (hS:ņ L N) (hT:Tab L N N (fw L N)):Ĩ L N=true:=by
 cases ho:Ĩ L N with
 |true=>rfl
 |false =>
  obtain⟨n,v,d,_,_,h3,h4,h5⟩:=aIB hS ho;have:=hT.closed v d h3.1 h3.2 (.of_wk hS.inr (Int.le_refl _) h4);omega
theorem fw_dst (hS:ņ L N) (ht:atC L N) (hT:Tab L N N (fw L N)) {a b:Int} (ha:0≤a∧a<N) (hb:0≤b∧b<N):fw L N a b=dst L N a b:=by
 have ho:=aXD hS hT;obtain⟨vs,hw⟩:=a0g hS ht ho ha hb;obtain⟨h1,h2⟩:=hT.le a b _ ha.1 ha.2 hb.1 hb.2 (.of_wl hS.inr (Int.le_refl _) hw);obtain⟨vs',hw'⟩:=(hT.att a b ha.1 ha.2 hb.1 hb.2 h2).wl;have:=a16 hS ho ha hw';omega
end
section
variable {ρ:Type} {L:List Lk} {N:Nat}
theorem aZm (hN:N≤60) {u:Int} (hu:0≤u∧u<N) (K:List Int→Option ρ) :
 Ì (fun(v7:Int×List Int) kk10=>afR (N:Int) u v7.1 v7.2 (fun u8 u9=>kk10 (u8,u9)) K) ((0:Int),List.replicate N (0:Int))=K (aGc N (aSn u)):=by
 refine ñ (List.replicate N ()) (fun i=>aGc N fun b=>if b<i then aSn u b else 0) _ ?_ (fun i a hi ha kn=>?_) (fun kn=>?_)
 ·unfold aGc;refine List.ext_getElem? fun j=>?_;rw[List.getElem?_map,List.getElem?_replicate]
  by_cases hj:j<N
  ·rw[List.getElem?_range hj,if_pos hj];simp only[Option.map_some];rw[if_neg (by omega)]
  ·rw[List.getElem?_eq_none (by simpa using hj),if_neg hj];rfl
 ·try dsimp only
  unfold afR;rw[List.length_replicate] at hi;have e0:Ľ=(1152921504606846976:Int):=rfl;rw[Ú (decide_eq_true (by omega)),ahQ,Ħ (by omega) (by omega),agQ _ (by omega) (by omega),aQ5 _ (by omega)]
  by_cases h:u=(i:Int)
  ·rw[Ú (beq_iff_eq.2 h),ahQ,Ħ (by omega) (by omega),agQ _ (by omega) (by omega),Ø (by omega) (by omega),aQ5 _ (by omega)];congr 1;refine aJO fun v h0 h1=>?_
   by_cases hv:v=(i:Int)
   ·rw[if_pos hv,if_pos (by push_cast; omega)]; unfold aSn; rw[if_pos (by omega)]
   ·rw[if_neg hv,if_neg hv]
    by_cases h2:v<(i:Int)
    ·rw[if_pos h2,if_pos (by push_cast; omega)]
    ·rw[if_neg h2,if_neg (by push_cast; omega)]
  ·rw[Õ (beq_eq_false_iff_ne.2 h),Ø (by omega) (by omega)];congr 1;refine aJO fun v h0 h1=>?_
   by_cases hv:v=(i:Int)
   ·rw[if_pos hv,if_pos (by push_cast; omega)]; unfold aSn; rw[if_neg (by omega),e0]
   ·rw[if_neg hv]
    by_cases h2:v<(i:Int)
    ·rw[if_pos h2,if_pos (by push_cast; omega)]
    ·rw[if_neg h2,if_neg (by push_cast; omega)]
 ·try dsimp only
  unfold afR;rw[List.length_replicate,Õ (decide_eq_false (by omega))];congr 1;exact aJO fun v h0 h1=>if_pos h1
theorem aZn (hN:N≤60) (K:List (List Int)→Option ρ) :
 Ì (fun(v74:Int×List (List Int)) kk77=>afS (N:Int) v74.1 v74.2 (fun u75 u76=>kk77 (u75,u76)) K) ((0:Int),[])=K (aqY N aSn):=by
 refine ñ (List.replicate N ()) (fun i=>(List.range i).map fun(u:Nat)=>aGc N (aSn u)) _ rfl (fun i a hi ha kn=>?_) (fun kn=>?_)
 ·try dsimp only
  unfold afS;rw[List.length_replicate] at hi;rw[Ú (decide_eq_true (by omega)),ģ (by simp[ì]; omega),Int.toNat_natCast];refine(aZm hN ⟨by omega,by omega⟩ _).trans ?_;rw[ģ (Ù (by simp only[List.length_map,List.length_range,List.length_singleton]; omega)),Ø (by omega) (by omega)];congr 2;rw[List.range_succ,List.map_append];rfl
 ·try dsimp only
  unfold afS;rw[List.length_replicate,Õ (decide_eq_false (by omega))];rfl
theorem aZl (hS:ņ L N) (K:List (List Int)→Option ρ) :
 Ì (fun(v70:Int×List (List Int)) kk73=>afQ L v70.1 v70.2 (fun u71 u72=>kk73 (u71,u72)) K) ((0:Int),aqY N aSn)=K (aqY N (fw L 0)):=by
 have hl3:=hS.len;refine ñ L (fun i=>aqY N ((L.take i).foldl lkF aSn)) _ rfl (fun i l hi hl kn=>?_) (fun kn=>?_)
 ·try dsimp only
  unfold afQ;have hr:=hS.inr l (List.mem_of_getElem? hl);obtain⟨⟨a0,a1⟩,b0,b1⟩:=hr;rw[Ö hi,Ë hl];simp only[alX,Ħ a0 a1,ajp _ a0 a1,ahQ,Ħ b0 b1,agQ _ b0 b1];rw[Ñ hi (by omega),aWn _ a0 b0,take_succ hl,List.foldl_append];congr 2;refine ake fun u v _ _ _ _=>?_;simp only[List.foldl_cons,List.foldl_nil,lkF,apz]
 ·try dsimp only
  unfold afQ;rw[ã,List.take_length];rfl
theorem aZk (hS:ņ L N) {k:Nat} (hk:k<N) {f:Int→Int→Int} (hT:Tab L N k f) {u:Int} (hu:0≤u∧u<N) (hne:f u k≠Ľ) {g:Int→Int→Int} (hgk:∀b:Int,0≤b→b<N→g k b=f k b) (hgu:∀b:Int,0≤b→b<N→g u b=f u b) (K:List (List Int)→Option ρ) :
 Ì (fun(v45:Int×List (List Int)) kk48=>afO (k:Int) u (N:Int) v45.1 v45.2 (fun u46 u47=>kk48 (u46,u47)) K) ((0:Int),aqY N g)=K (aqY N fun a b=>if a=u then upF f k a b else g a b):=by
 have hn:=hS.n60
 have hk0:(0:Int)≤k∧(k:Int)<N:=by omega
 have hdk:=hT.diag k hk0.1 hk0.2;have e0:Ľ=(1152921504606846976:Int):=rfl
 have rowk:∀b:Int,upF f k k b=f k b:=fun b=>by
  unfold upF;rw[hdk];rw[if_neg (by decide)]
  split
  ·rfl
  ·omega
 have colk:upF f k u k=f u k:=by
  unfold upF;rw[if_neg hne,hdk,if_neg (by decide)];omega
 refine ñ (List.replicate N ()) (fun i=>aqY N fun a b=>if a=u∧b<i then upF f k a b else g a b) _ ?_ (fun i a hi ha kn=>?_) (fun kn=>?_)
 ·exact ake fun a b _ _ hb _=>if_neg (by omega)
 ·try dsimp only
  unfold afO;rw[List.length_replicate] at hi
  have hi0:(0:Int)≤i∧(i:Int)<N:=by omega
  -- what lies in row k, and in row u at k
  have r1:(if (k:Int)=u∧(i:Int)<i then upF f k k i else g k i)=f k i:=by rw[if_neg (by omega)]; exact hgk i hi0.1 hi0.2
  have r2:(if u=u∧(i:Int)<i then upF f k u i else g u i)=f u i:=by rw[if_neg (by omega)]; exact hgu i hi0.1 hi0.2
  have r3:(if u=u∧(k:Int)<i then upF f k u k else g u k)=f u k:=by
   split
   ·exact colk
   ·exact hgu k hk0.1 hk0.2
  have step:∀x:Int,(fun(a b:Int)=>if a=u∧b=(i:Int) then x else if a=u∧b<(i:Int) then upF f k a b else g a b)=fun a b=>if a=u∧b<((i+1:Nat):Int) then(if b=(i:Int) then x else upF f k a b) else g a b:=fun x=>by
   funext a b
   by_cases h1:a=u
   ·by_cases h2:b=(i:Int)
    ·rw[if_pos ⟨h1,h2⟩,if_pos ⟨h1,by push_cast; omega⟩,if_pos h2]
    ·by_cases h3:b<(i:Int)
     ·rw[if_neg (fun h=>h2 h.2),if_pos ⟨h1,h3⟩,if_pos ⟨h1,by push_cast; omega⟩,if_neg h2]
     ·rw[if_neg (fun h=>h2 h.2),if_neg (fun h=>h3 h.2),if_neg (fun h=>by have:=h.2; push_cast at this; omega)]
   ·rw[if_neg (fun h=>h1 h.1),if_neg (fun h=>h1 h.1),if_neg (fun h=>h1 h.1)]
  rw[Ú (decide_eq_true hi0.2)];simp only[-eq_self,alX,Ħ hk0.1 hk0.2,ajp _ hk0.1 hk0.2,ahQ,Ħ hi0.1 hi0.2,agQ _ hi0.1 hi0.2,r1]
  by_cases h2:f k i=Ľ
  ·rw[Õ (by rw[h2]; rfl),Ø (by omega) (by omega)];congr 2;refine ake fun a b ha _ hb _=>?_
   by_cases h3:a=u∧b<(i:Int)
   ·rw[if_pos h3,if_pos ⟨h3.1,by push_cast; omega⟩]
   ·rw[if_neg h3]
    by_cases h4:a=u∧b=(i:Int)
    ·rw[if_pos ⟨h4.1,by push_cast; omega⟩,h4.1,h4.2];unfold upF;rw[if_neg hne,if_pos h2];exact hgu i hi0.1 hi0.2
    ·rw[if_neg (fun h=>by have:=h.2; push_cast at this; omega)]
  ·have b1:=hT.bd hS hu hk0 hne;have b2:=hT.bd hS hk0 hi0 h2;rw[Ú (bne_iff_ne.2 h2)];simp only[-eq_self,alX,Ħ hu.1 hu.2,ajp _ hu.1 hu.2,ahQ,Ħ hi0.1 hi0.2,agQ _ hi0.1 hi0.2,Ħ hk0.1 hk0.2,agQ _ hk0.1 hk0.2,ajp _ hk0.1 hk0.2,r1,r2,r3];rw[Ø (by omega) (by omega)]
   try simp only[-eq_self,alX,Ħ hu.1 hu.2,ajp _ hu.1 hu.2,ahQ,Ħ hi0.1 hi0.2,agQ _ hi0.1 hi0.2]
   rw[Ø (by omega) (by omega),aWn _ hu.1 hi0.1,step];congr 2;refine ake fun a b ha _ hb _=>?_
   by_cases h3:a=u∧b<((i+1:Nat):Int)
   ·rw[if_pos h3,if_pos h3]
    by_cases h4:b=(i:Int)
    ·rw[if_pos h4,h3.1,h4,apz];unfold upF;rw[if_neg hne,if_neg h2]
    ·rw[if_neg h4]
   ·rw[if_neg h3,if_neg h3]
 ·try dsimp only
  unfold afO;rw[List.length_replicate,Õ (decide_eq_false (by omega))];congr 1;refine ake fun a b _ _ _ hb=>?_
  by_cases h:a=u
  ·rw[if_pos ⟨h,hb⟩,if_pos h]
  ·rw[if_neg (fun q=>h q.1),if_neg h]
theorem aTa (hS:ņ L N) {k:Nat} (hk:k<N) {f:Int→Int→Int} (hT:Tab L N k f) (K:List (List Int)→Option ρ) :
 Ì (fun(v60:Int×List (List Int)) kk63=>afP (k:Int) (N:Int) v60.1 v60.2 (fun u61 u62=>kk63 (u61,u62)) K) ((0:Int),aqY N f)=K (aqY N (upF f k)):=by
 have hn:=hS.n60
 have hk0:(0:Int)≤k∧(k:Int)<N:=by omega
 have hdk:=hT.diag k hk0.1 hk0.2
 have rowk:∀b:Int,upF f k k b=f k b:=fun b=>by
  unfold upF;rw[hdk];rw[if_neg (by decide)]
  split
  ·rfl
  ·omega
 refine ñ (List.replicate N ()) (fun i=>aqY N fun a b=>if a<i then upF f k a b else f a b) _ ?_ (fun i a hi ha kn=>?_) (fun kn=>?_)
 ·exact ake fun a b ha _ _ _=>if_neg (by omega)
 ·try dsimp only
  unfold afP;rw[List.length_replicate] at hi
  have hi0:(0:Int)≤i∧(i:Int)<N:=by omega
  have r1:(if (i:Int)<i then upF f k i k else f i k)=f i k:=if_neg (by omega);rw[Ú (decide_eq_true hi0.2)];simp only[alX,Ħ hi0.1 hi0.2,ajp _ hi0.1 hi0.2,ahQ,Ħ hk0.1 hk0.2,agQ _ hk0.1 hk0.2,r1]
  by_cases h1:f i k=Ľ
  ·rw[Ú (beq_iff_eq.2 h1),Ø (by omega) (by omega)];congr 2;refine ake fun a b ha _ hb _=>?_
   by_cases h2:a<(i:Int)
   ·rw[if_pos h2,if_pos (by push_cast; omega)]
   ·rw[if_neg h2]
    by_cases h3:a=(i:Int)
    ·rw[if_pos (by push_cast; omega),h3];unfold upF;rw[if_pos h1]
    ·rw[if_neg (by push_cast; omega)]
  ·rw[Õ (beq_eq_false_iff_ne.2 h1)];refine(aZk hS hk hT hi0 h1 (fun b _ _=>?_) (fun b _ _=>if_neg (by omega)) _).trans ?_
   ·split
    ·exact rowk b
    ·rfl
   ·rw[Ø (by omega) (by omega)];congr 2;refine ake fun a b ha _ hb _=>?_
    by_cases h3:a=(i:Int)
    ·rw[if_pos h3,if_pos (by push_cast; omega)]
    ·rw[if_neg h3]
     by_cases h2:a<(i:Int)
     ·rw[if_pos h2,if_pos (by push_cast; omega)]
     ·rw[if_neg h2,if_neg (by push_cast; omega)]
 ·try dsimp only
  unfold afP;rw[List.length_replicate,Õ (decide_eq_false (by omega))];congr 1;exact ake fun a b _ ha _ _=>if_pos ha
theorem aZj (hN:N≤60) (f:Int→Int→Int) (X Y:Option ρ) :
 Ì (fun(v57:Int) kk59=>adE (N:Int) (aqY N f) v57 (fun u58=>kk59 u58) (fun _=>X) (fun _=>Y)) (0:Int)=if ((List.range N).any fun(a:Nat)=>decide (f a a<0)) then X else Y:=by
 refine Ĺ (List.range N) (fun a=>decide (f a a<0)) (fun _=>X) X Y (fun _=>rfl) (fun i a hi ha kn=>?_) (fun kn=>?_)
 ·try dsimp only
  unfold adE;rw[List.length_range] at hi
  have hia:a=i:=by rw[List.getElem?_range hi] at ha; exact(Option.some.inj ha).symm
  subst hia
  have hi0:(0:Int)≤a∧(a:Int)<N:=by omega
  rw[Ú (decide_eq_true hi0.2)];simp only[alX,Ħ hi0.1 hi0.2,ajp _ hi0.1 hi0.2,ahQ,agQ _ hi0.1 hi0.2];rw[Ø (by omega) (by omega),Ĥ]
 ·try dsimp only
  unfold adE;rw[List.length_range,Õ (decide_eq_false (by omega))]
theorem a0P (hS:ņ L N) (ht:atC L N):alF ((N:Int),L)=some (if Ĩ L N then(aqY N (dst L N),true) else([],false)):=by
 have hn:=hS.n60;unfold alF axG;dsimp only;refine(aZn hn _).trans ?_;refine(aZl hS _).trans ?_
 have anyOf:∀k:Nat,((List.range N).any fun(a:Nat)=>decide (fw L k a a<0))=true↔∃a:Int,0≤a∧a<N∧fw L k a a<0:=fun k=>by
  rw[List.any_eq_true];constructor
  ·rintro⟨a,h1,h2⟩;have:=List.mem_range.1 h1;exact⟨a,by omega,by omega,of_decide_eq_true h2⟩
  ·rintro⟨a,h0,h1,h2⟩;exact⟨a.toNat,List.mem_range.2 (by omega),decide_eq_true (by rw[show((a.toNat:Nat):Int)=a by omega]; exact h2)⟩
 rcases fw_all hS with⟨j,hj,hT,hb,hall⟩|hall
 ·rw[aZ7 hS hj hT hb,if_neg (by simp)];refine ł (fun v=>∃k:Nat,k≤j∧v=((k:Int),aqY N (fw L k))∧Tab L N k (fw L k)) (fun v=>N-v.1.toNat) ?_ ⟨0,by omega,rfl,hall 0 (by omega)⟩;rintro v ⟨k,hkj,rfl,hTk⟩;dsimp only
  have hL6:∀kn:Int×List (List Int)→Option (List (List Int)×Bool),aep (N:Int) (k:Int) (aqY N (fw L k)) (fun u67 u68=>kn (u67,u68)) (fun z64=>some (([]:List (List Int)),z64.1)) (fun z65=>some (z65,true))=if ((List.range N).any fun(a:Nat)=>decide (fw L (k+1) a a<0)) then some ([],false) else kn ((k:Int)+1,aqY N (fw L (k+1))):=fun kn=>by
   unfold aep;rw[Ú (decide_eq_true (by omega))];refine(aTa hS (by omega) hTk _).trans ?_;have:=aZj hn (upF (fw L k) k) (some (([]:List (List Int)),false)) (ck ((k:Int)+1) fun n56=>kn (n56,aqY N (upF (fw L k) k)));rw[Ø (by omega) (by omega)] at this;refine Eq.trans ?_ this;rw[Ø (by omega) (by omega)];congr 1
  rcases Nat.lt_or_eq_of_le hkj with hlt|rfl
  ·refine .inr ⟨(((k+1:Nat):Int),aqY N (fw L (k+1))),⟨k+1,hlt,rfl,hall (k+1) hlt⟩,by dsimp only; omega,fun kn=>?_⟩;have hd:=hall (k+1) hlt;rw[hL6 kn,if_neg]
   ·push_cast; rfl
   ·intro h;obtain⟨a,h0,h1,h2⟩:=(anyOf (k+1)).1 h;rw[hd.diag a h0 h1] at h2;omega
  ·refine .inl fun kn=>?_;rw[hL6 kn,if_pos ((anyOf (k+1)).2 hb)]
 ·have hT:=hall N (Nat.le_refl _);rw[aXD hS hT,if_pos rfl];refine ł (fun v=>∃k:Nat,k≤N∧v=((k:Int),aqY N (fw L k))) (fun v=>N-v.1.toNat) ?_ ⟨0,by omega,rfl⟩;rintro v ⟨k,hkj,rfl⟩;dsimp only;rcases Nat.lt_or_eq_of_le hkj with hlt|rfl
  ·have hd:=hall (k+1) hlt;refine .inr ⟨(((k+1:Nat):Int),aqY N (fw L (k+1))),⟨k+1,hlt,rfl⟩,by dsimp only; omega,fun kn=>?_⟩;unfold aep;rw[Ú (decide_eq_true (by omega))];refine(aTa hS hlt (hall k hkj) _).trans ?_;refine ł (fun v=>∃a:Nat,a≤N∧v=(a:Int)) (fun v=>N-v.toNat) ?_ ⟨0,by omega,rfl⟩;rintro v ⟨a,ha,rfl⟩;rcases Nat.lt_or_eq_of_le ha with hl|rfl
   ·have ha0:(0:Int)≤a∧(a:Int)<N:=by omega
    refine .inr ⟨((a+1:Nat):Int),⟨a+1,hl,rfl⟩,by omega,fun kn'=>?_⟩;unfold adE;have hda:upF (fw L k) k a a=0:=hd.diag a ha0.1 ha0.2;rw[Ú (decide_eq_true ha0.2)];simp only[alX,Ħ ha0.1 ha0.2,ajp _ ha0.1 ha0.2,ahQ,agQ _ ha0.1 ha0.2,hda];rw[Õ (by rfl),Ø (by omega) (by omega)];push_cast;rfl
   ·refine .inl fun kn'=>?_;unfold adE;rw[Õ (decide_eq_false (by omega)),Ø (by omega) (by omega)];push_cast;rfl
  ·refine .inl fun kn=>?_;unfold aep;rw[Õ (decide_eq_false (by omega))];refine congrArg _ (congrArg (·,true) ?_);exact ake fun a b h0 h1 h2 h3=>fw_dst hS ht hT ⟨h0,h1⟩ ⟨h2,h3⟩
end
end Go.Proofs.ZzM
end
noncomputable section
namespace Go.Proofs.ZzM
open Go Go.Am
theorem apZ (n lo hi:Int):afY n lo hi=some (inP n lo hi):=by
 unfold afY aRu inP ige ile
 cases h:decide (lo≤n)<;>simp_all
theorem aM8 (n:Int):am2 n=some (aw6 n):=by
 unfold am2 aKL;rw[apZ]; rfl
theorem anh (s:Int×Int) (lo hi:Int):aei s lo hi=some (aeE s lo hi):=by
 unfold aei aol aeE ile
 cases decide (lo≤s.1)<;>cases decide (s.1≤s.2)<;>rfl
theorem a2q {l:List Int} (hn:l.length≤1000000) (x:Int):aBY l x=some (l.contains x):=by
 unfold aBY aKI;refine Eq.trans (Ĺ l (fun a=>a==x) (fun _=>some true) (some true) (some false) (fun _=>rfl) (fun i a hi ha kn=>?_) (fun kn=>?_)) ?_
 ·try dsimp only
  unfold amc;rw[Ö hi,Ë ha,Ñ hi (by omega),Ĥ]
 ·try dsimp only
  unfold amc;rw[ã]
 ·have:l.any (fun a=>a==x)=l.contains x:=by
   rw[Bool.eq_iff_iff,List.any_eq_true,List.contains_iff_mem];constructor
   ·rintro⟨a,ha,e⟩; rw[←eq_of_beq e]; exact ha
   ·intro h; exact⟨x,h,by simp⟩
  rw[this]
  cases l.contains x<;>rfl
theorem aVd {a b:List Int} {i:Nat} {x:Int} (h:a[i]?=some x):ë (a.take (i+1)) b=ë (a.take i) b++if b.contains x then[] else[x]:=by
 rw[take_succ h,ë,ë,List.filter_append];congr 1
 cases hx:b.contains x<;>simp only[List.filter_cons,hx,Bool.not_true,Bool.not_false,Bool.false_eq_true,if_false,if_true,List.filter_nil]
theorem aM7 {a b:List Int} (ha:a.length≤1000000) (hb:b.length≤1000000):aeN a b=some (ë a b):=by
 unfold aeN aDk;refine ñ a (fun i=>ë (a.take i) b) _ rfl (fun i x hi hx kn=>?_) (fun kn=>?_)
 ·try dsimp only
  unfold ajz
  have hl:(ë (a.take i) b).length≤1000000:=by
   have:=apx (a.take i) b;rw[List.length_take] at this;omega
  rw[Ö hi,Ë hx,a2q hb,À,aVd hx]
  cases b.contains x with
  |true=>rw[Õ (by rfl),Ñ hi (by omega)]; simp
  |false=>rw[Ú (by rfl),Ë hx,Ù (by simp only[List.length_singleton]; omega),Am.iff_true,Ñ hi (by omega)]; simp
 ·try dsimp only
  unfold ajz;rw[ã,List.take_length]
def aAz (a b:List Int):Int:=(ë a b).head?.getD 0
theorem ay4 {a b:List Int} (ha:a.length≤1000000) (hb:b.length≤1000000):ah7 a b=some (aAz a b):=by
 unfold ah7 aKo aAz;rw[aM7 ha hb,À,ç]
 cases h:ë a b with
 |nil=>rfl
 |cons x t =>
  rw[Õ (by simp[ieq]; omega)];exact Ë (i:=0) rfl _
theorem aB5 {b:â} (hn:b.2.1.length≤1000000) (id:Int):aiZ b id=some (match b.2.1.findIdx? (fun g=>g.1==id) with|some j=>(j:Int)|none=>-1):=by
 unfold aiZ aDp;refine Eq.trans (adl b.2.1 (fun g=>g.1==id) (fun z=>some z) (some (-1)) (fun i a hi ha kn=>?_) (fun kn=>?_)) ?_
 ·try dsimp only
  unfold ajA;rw[Ö hi,Ë ha,Ñ hi (by omega),Ĥ]
 ·try dsimp only
  unfold ajA;rw[ã]
 ·cases List.findIdx? (fun g:î=>g.1==id) b.2.1<;>rfl
theorem aqn {b:â} {id:Int}:(∃j g,b.2.1.findIdx? (fun g=>g.1==id)=some j∧b.2.1[j]?=some g∧ū b id=some g)∨(b.2.1.findIdx? (fun g=>g.1==id)=none∧ū b id=none):=by
 unfold ū;rw[aMz]
 cases h:b.2.1.findIdx? (fun g=>g.1==id) with
 |none=>exact .inr ⟨rfl,rfl⟩
 |some j =>
  obtain⟨hj,_,_⟩:=List.findIdx?_eq_some_iff_getElem.1 h;exact .inl ⟨j,_,rfl,List.getElem?_eq_getElem hj,List.getElem?_eq_getElem hj⟩
def ο (b:â) (id day:Int):Int:=match ū b id with|some g=>if day<g.2.1 then 4 else 0|none=>5
theorem aw2 {b:â} (hn:b.2.1.length≤1000000) (id day:Int):agG b id day=some (ο b id day):=by
 unfold agG axA ο;rw[aB5 hn,À];rcases aqn (b:=b) (id:=id) with⟨j,g,h1,h2,h3⟩|⟨h1,h2⟩
 ·rw[h1,h3]
  try dsimp only
  rw[Õ (by simp[ilt]),Ë h2,Ĥ]
  by_cases hd:day<g.2.1
  ·rw[if_pos (by simpa[ilt] using hd),if_pos hd]
  ·rw[if_neg (by simpa[ilt] using hd),if_neg hd]
 ·rw[h1,h2];rfl
theorem asn {b:â} (hi:b.2.1.Pairwise fun a b=>a.1<b.1) (id day:Int):ο b id day=ag2 (ady b) id day:=by
 unfold ο ag2;rw[ap9 hi]
 cases ū b id<;>rfl
theorem aUt {b:â} (hn:b.2.2.2.1.length≤1000000) (id day:Int):apE b id day=some (match af6 b id day with|some l=>(l,true)|none=>((0,(0,0),0),false)):=by
 unfold apE aDi;refine aXb b.2.2.2.1 (fun _=>((0:Int),(0:Int),(0:Int),(0:Int))) _ (fun i=>∀l∈b.2.2.2.1.take i,(l.1==id&&inP day l.2.1.1 l.2.1.2)=false) rfl (by simp) (fun i a hi ha hP kn=>?_) (fun hP kn=>?_)
 ·try dsimp only
  unfold ajy;rw[Ö hi,Ë ha]
  by_cases hm:(a.1==id&&inP day a.2.1.1 a.2.1.2)=true
  ·refine .inl ?_;have hm2:=hm;simp only[inP,Bool.and_eq_true,beq_iff_eq,decide_eq_true_eq] at hm2;rw[Ú (by simp[ieq,hm2.1]),Ú (by simp[ile,hm2.2.1]),Ú (by simp[ile,hm2.2.2])]
   have hf:af6 b id day=some a:=by
    unfold af6;obtain⟨hi',rfl⟩:=List.getElem?_eq_some_iff.1 ha;rw[List.find?_eq_some_iff_getElem];refine⟨hm,i,hi',rfl,fun j hj=>?_⟩;have:=hP b.2.2.2.1[j] (List.mem_iff_getElem.2 ⟨j,by rw[List.length_take]; omega,by rw[List.getElem_take]⟩);simp[this]
   rw[hf]
  ·refine .inr ⟨fun l hl=>?_,?_⟩
   ·rw[take_succ ha,List.mem_append,List.mem_singleton] at hl;rcases hl with hl|rfl
    ·exact hP l hl
    ·simpa using hm
   ·have hm2:=hm;simp only[inP,Bool.and_eq_true,beq_iff_eq,decide_eq_true_eq] at hm2
    by_cases h1:a.1=id
    ·by_cases h2:a.2.1.1≤day
     ·rw[Ú (by simp[ieq,h1]),Ú (by simp[ile,h2]),Õ (by simp[ile]; exact Int.lt_of_not_ge fun h3=>hm2 ⟨h1,h2,h3⟩),Ñ hi (by omega)]
     ·rw[Ú (by simp[ieq,h1]),Õ (by simp[ile]; omega),Ñ hi (by omega)]
    ·rw[Õ (by simp[ieq,h1]),Ñ hi (by omega)]
 ·try dsimp only
  unfold ajy;rw[ã]
  have:af6 b id day=none:=by
   unfold af6;rw[List.find?_eq_none];intro l hl;have:=hP l (by rw[List.take_length]; exact hl);simp[this]
  rw[this]
theorem a0X {b:â} (hn:b.2.2.1.length≤1000000) (id day:Int):awx b id day=some (aAt b id day):=by
 unfold awx aC1;refine Eq.trans (Ĺ b.2.2.1 (fun u=>u.1==id&&u.2==day) (fun _=>some true) (some true) (some false) (fun _=>rfl) (fun i a hi ha kn=>?_) (fun kn=>?_)) ?_
 ·try dsimp only
  unfold ajv;rw[Ö hi,Ë ha,Ë ha,Ñ hi (by omega)]
  cases h1:(a.1==id) with
  |false=>have:ieq a.1 id=false:=h1; simp[this]
  |true =>
   have:ieq a.1 id=true:=h1;rw[this]
   cases h2:(a.2==day) with
   |false=>have:ieq a.2 day=false:=h2; simp[this]
   |true=>have:ieq a.2 day=true:=h2; simp[this]
 ·try dsimp only
  unfold ajv;rw[ã]
 ·unfold aAt
  cases b.2.2.1.any _<;>rfl
theorem aYV (a b:Nat):aqv a b=some ((Nat.gcd a b:Nat):Int):=by
 unfold aqv aKW;refine ł (fun x:Int×Int=>∃c d:Nat,x=((c:Int),(d:Int))∧Nat.gcd c d=Nat.gcd a b) (fun x=>x.2.toNat) ?_ ⟨a,b,rfl,rfl⟩;rintro x ⟨c,d,rfl,hg⟩
 cases d with
 |zero =>
  refine .inl fun kn=>?_;rw[Nat.gcd_zero_right] at hg;unfold amd;simp[hg,ine]
 |succ d =>
  refine .inr ⟨(((d+1:Nat):Int),((c % (d+1):Nat):Int)),⟨d+1,c % (d+1),rfl,?_⟩,?_,fun kn=>?_⟩
  ·rw[←hg,Nat.gcd_comm c (d+1),Nat.gcd_rec (d+1) c,Nat.gcd_comm]
  ·have:=Nat.mod_lt c (Nat.succ_pos d);simp only[Int.toNat_natCast];omega
  ·unfold amd
   have h1:ine ((d+1:Nat):Int) 0=true:=by simp[ine]; omega
   have h2:Ă ((d+1:Nat):Int) 0=false:=by simp[Ă]; omega
   simp only[h1,Ú Õ h2];congr 1
theorem aYX {n:Int} (h : -9223372036854775807≤n∧n≤9223372036854775807):awA n=some (n.natAbs:Int):=by
 unfold awA aK0
 by_cases hn:n<0
 ·rw[Ú (by simpa[ilt] using hn),Ø (by omega) (by omega)];congr 1;omega
 ·rw[Õ (by simpa[ilt] using hn)];congr 1;omega
theorem aYQ (r:Int×Int):aqt r=some (azd r):=by
 unfold aqt axH azd
 by_cases h1:1≤r.2
 ·rw[Õ (by simp[ilt]; omega)]
  by_cases h2:r.2≤2147483647
  ·rw[Õ (by simp[igt]; omega)]
   by_cases h3:r.1 < -2147483647
   ·rw[Ú (by simp[ilt]; omega)]
    have:¬((r.1.natAbs:Int)≤2147483647):=by omega
    simp[this]
   ·rw[Õ (by simp[ilt]; omega)]
    by_cases h4:2147483647<r.1
    ·rw[Ú (by simp[igt]; omega)]
     have:¬((r.1.natAbs:Int)≤2147483647):=by omega
     simp[this]
    ·rw[Õ (by simp[igt]; omega),aYX ⟨by omega,by omega⟩,À]
     have h5:r.2=((r.2.natAbs:Nat):Int):=by omega
     have h6:((r.1.natAbs:Int)≤2147483647):=by omega
     rw[h5,aYV,À,←h5];congr 1;rw[Bool.eq_iff_iff];simp only[ieq,beq_iff_eq,h1,h2,h6,decide_true,Bool.true_and,decide_eq_true_eq];omega
  ·rw[Ú (by simp[igt]; omega)];simp[h2]
 ·rw[Ú (by simp[ilt]; omega)];simp[h1]
theorem aYO (g:î):aqr g=some (aiV g):=by
 unfold aqr axy aiV;rw[aYQ,apZ,apZ,aM8,apZ,anh,apZ];simp only[À]
 have e:igt g.2.2.2.2.1.2 100=!decide (g.2.2.2.2.1.2≤100):=by
  rw[Bool.eq_iff_iff]; simp[igt]
 rw[e]
 cases azd g.2.2.2.2.1<;>cases inP g.2.2.2.2.1.1 (-1000) 1000<;>cases decide (g.2.2.2.2.1.2≤100)<;>cases inP g.1 1 1099511627776<;>cases aw6 g.2.1<;>cases inP g.2.2.1 1 1125899906842624<;>cases aeE g.2.2.2.1 (-1073741824) 1073741824<;>rfl
end Go.Proofs.ZzM
end
noncomputable section
namespace Go.Proofs.ZzM
open Go Go.Am
theorem aRg {l:List Int}:∀(m:List Int) (j:Nat) (x:Bool),ĵ (anN l) j m=some x→x=false:=by
 intro m
 induction m with
 |nil=>intro j x h; cases h
 |cons a m ih =>
  intro j x h;unfold ĵ at h
  cases hp:anN l j a with
  |none=>rw[hp] at h; exact ih _ _ h
  |some y =>
   rw[hp] at h;cases h;unfold anN at hp
   split at hp
   ·cases hp; rfl
   ·split at hp
    ·cases hp; rfl
    ·cases hp
theorem aUs {l:List Int} (hn:l.length≤1000000):apD l=some (aga l):=by
 unfold apD aC6;refine Eq.trans (afn l (anN l) some (some (decide (l.length≤6))) (fun i a hi ha kn=>?_) (fun kn=>?_)) ?_
 ·try dsimp only
  unfold ajw;rw[Ö hi,Ë ha,apZ,À];unfold anN
  cases inP a 1 1099511627776 with
  |false=>rfl
  |true =>
   simp only[Bool.not_true,è,Bool.false_eq_true,if_false];rcases Nat.eq_zero_or_pos i with h0|h0
   ·subst h0
    have:igt ((0:Nat):Int) 0=false:=by simp[igt]
    rw[Õ this,Ñ hi (by omega)];simp[atA]
   ·obtain⟨q,hq⟩:=atU hi h0
    have h1:igt (i:Int) 0=true:=by simp[igt]; omega
    rw[Ú h1,Ë ha,aFG h0 (by omega),awn h0 hq];simp only[atA,h0,decide_true,Bool.true_and,hq,Option.any_some];unfold ile
    cases h2:decide (a≤q) with
    |true=>rfl
    |false =>
     rw[è,Ñ hi (by omega)];rfl
 ·try dsimp only
  unfold ajw;rw[ã,ç];simp[ile];omega
 ·unfold aga
  cases h:ĵ (anN l) 0 l with
  |none=>rfl
  |some x=>rw[aRg _ _ _ h]
theorem aYM {c:Cmp} (hA:c.2.2.1.length≤1000000) (hB:c.2.2.2.1.length≤1000000):aqp c=some (aAA c):=by
 unfold aqp axv aAA;rw[aUs hA,aUs hB,apZ,aM8,apZ,apZ,anh];simp only[À]
 cases aga c.2.2.1<;>cases aga c.2.2.2.1<;>cases inP c.1 1 1099511627776<;>cases aw6 c.2.1<;>cases inP c.2.2.2.2.1 (-1125899906842624) 1125899906842624<;>cases inP c.2.2.2.2.2.1 0 1073741824<;>cases aeE c.2.2.2.2.2.2 (-10000) 10000<;>rfl
def aNf (b:â) (u:Int×Int):Int:=if !aw6 u.2 then 1 else ο b u.1 u.2
theorem aS4 {b:â} (hi:b.2.1.Pairwise fun a b=>a.1<b.1) (u:Int×Int):aNf b u=aUA (ady b) u.1 u.2:=by
 unfold aNf aUA;rw[asn hi]
def aTZ (e:Int):Option Int:=if e=0 then none else some e
theorem ayK {α:Type} (E:Nat→α→Int):∀(k:Nat) (l:List α),ĵ (fun i a=>aTZ (E i a)) k l=(l.mapIdx fun i a=>E (i+k) a).find? (fun e=>e != 0)
 |_,[]=>rfl
 |k,a::t=>by
  unfold ĵ;rw[ayK E (k+1) t,List.mapIdx_cons,List.find?_cons];unfold aTZ
  by_cases h:E k a=0
  ·simp only[h,if_true,Nat.zero_add];have:((0:Int) != 0)=false:=rfl;rw[this]
   have e:(fun(i:Nat) (a:α)=>E (i+(k+1)) a)=fun i a=>E (i+1+k) a:=by
    funext i a;congr 1;omega
   rw[e]
  ·simp only[h,if_false,Nat.zero_add]
   have:(E k a != 0)=true:=by simpa using h
   rw[this]
theorem aFn {α:Type} (E:Nat→α→Int) (l:List α):ĵ (fun i a=>aTZ (E i a)) 0 l=(l.mapIdx E).find? (fun e=>e != 0):=ayK E 0 l
theorem aFo {α:Type} (E:α→Int) (l:List α):ĵ (fun _ a=>aTZ (E a)) 0 l=(l.map E).find? (fun e=>e != 0):=by
 rw[ayK (fun _ a=>E a) 0 l];congr 1
 exact List.ext_getElem (by simp) fun i h1 h2=>by simp
theorem a0S {b:â} (hs:Ż b):awv b=some (((b.2.2.1.map (aNf b)).find? (fun e=>e != 0)).getD 0):=by
 have h1:=hs.gauges;have h2:=hs.uses;unfold awv aCS;refine Eq.trans (afn b.2.2.1 (fun _ u=>aTZ (aNf b u)) some (some 0) (fun i a hi ha kn=>?_) (fun kn=>?_)) ?_
 ·try dsimp only
  unfold ajq;rw[Ö hi,Ë ha,aM8,À];unfold aNf aTZ
  cases aw6 a.2 with
  |false=>rfl
  |true =>
   rw[Õ (by rfl),Ë ha,Ë ha,aw2 (b:=((b.1.1,b.1.2),b.2.1,b.2.2.1,b.2.2.2.1,b.2.2.2.2.1,b.2.2.2.2.2)) (by simp only; omega),À,Ñ hi (by omega)];have e:ο ((b.1.1,b.1.2),b.2.1,b.2.2.1,b.2.2.2.1,b.2.2.2.2.1,b.2.2.2.2.2) a.1 a.2=ο b a.1 a.2:=rfl;rw[e]
   by_cases hz:ο b a.1 a.2=0
   ·rw[Õ (by simp[ine,hz])]; simp[hz]
   ·rw[Ú (by simp[ine,hz])]; simp[hz]
 ·try dsimp only
  unfold ajq;rw[ã]
 ·rw[aFo]
  cases List.find? (fun e=>e != 0) (b.2.2.1.map (aNf b))<;>rfl
def aHY (b:â) (i:Nat) (l:aAq):Int :=
 if !aeE l.2.1 0 20000 then 1 else if !inP l.2.2 0 1048576 then 1 else if ο b l.1 l.2.1.1 != 0 then ο b l.1 l.2.1.1 else
 if (b.2.2.2.1.take i).any (fun x=>x.1==l.1&&(decide (x.2.1.1≤l.2.1.2)&&decide (l.2.1.1≤x.2.1.2))) then 9 else
 if b.2.2.1.any (fun u=>u.1==l.1&&inP u.2 l.2.1.1 l.2.1.2) then 9 else 0
theorem aXi {b:â} (hi:b.2.1.Pairwise fun a b=>a.1<b.1) (i:Nat) (l:aAq):aHY b i l=aHZ b (ady b) i l:=by
 unfold aHY aHZ;rw[asn hi]
theorem aYN {b:â} (hs:Ż b):aqq b=some (((b.2.2.2.1.mapIdx (aHY b)).find? (fun e=>e != 0)).getD 0):=by
 have h1:=hs.gauges;have h2:=hs.uses;have h3:=hs.loans;unfold aqq axw;refine Eq.trans (afn b.2.2.2.1 (fun i l=>aTZ (aHY b i l)) some (some 0) (fun i l hi hl kn=>?_) (fun kn=>?_)) ?_
 ·try dsimp only
  unfold ahT;rw[Ö hi,Ë hl,anh,À];unfold aHY aTZ
  cases aeE l.2.1 0 20000 with
  |false=>rfl
  |true =>
  rw[Õ (by rfl),apZ,À]
  cases inP l.2.2 0 1048576 with
  |false=>rfl
  |true =>
  rw[Õ (by rfl),aw2 (b:=((b.1.1,b.1.2),b.2.1,b.2.2.1,b.2.2.2.1,b.2.2.2.2.1,b.2.2.2.2.2)) (by simp only; omega),À];have e:ο ((b.1.1,b.1.2),b.2.1,b.2.2.1,b.2.2.2.1,b.2.2.2.2.1,b.2.2.2.2.2) l.1 l.2.1.1=ο b l.1 l.2.1.1:=rfl;rw[e]
  by_cases hz:ο b l.1 l.2.1.1=0
  ·rw[Õ (by simp[ine,hz])]
   have hl9:(b.2.2.2.1.take i).length=i:=by rw[List.length_take]; omega
   have inner:Ì (fun(v21:Int) kk23=>afL b.2.2.1 l.1 l.2.1.1 l.2.1.2 v21 (fun u22=>kk23 u22) (fun z18=>(some z18:Option Int)) (fun _=>ck ((i:Int)+(1:Int)) fun n20=>kn n20)) (0:Int)=if b.2.2.1.any (fun u=>u.1==l.1&&inP u.2 l.2.1.1 l.2.1.2) then some 9 else kn ((i:Int)+1):=by
    refine Ĺ b.2.2.1 _ (fun _=>some 9) (some 9) (kn ((i:Int)+1)) (fun _=>rfl) (fun j a hj ha kn'=>?_) (fun kn'=>?_)
    ·try dsimp only
     unfold afL;rw[Ö hj,Ë ha,Ë ha,apZ,À,Ñ hj (by omega)]
     cases hq:(a.1==l.1) with
     |false=>have:ieq a.1 l.1=false:=hq; simp[this]
     |true =>
      have:ieq a.1 l.1=true:=hq;rw[this]
      cases inP a.2 l.2.1.1 l.2.1.2<;>simp
    ·try dsimp only
     unfold afL;rw[ã];dsimp only;rw[Ñ hi (by omega)]
   try dsimp only
   rw[inner];refine Eq.trans (Ĺ (b.2.2.2.1.take i) (fun x=>x.1==l.1&&(decide (x.2.1.1≤l.2.1.2)&&decide (l.2.1.1≤x.2.1.2))) (fun _=>some 9) (some 9) (if b.2.2.1.any (fun u=>u.1==l.1&&inP u.2 l.2.1.1 l.2.1.2) then some 9 else kn ((i:Int)+1)) (fun _=>rfl) (fun j a hj ha kn'=>?_) (fun kn'=>?_)) ?_
   ·try dsimp only
    unfold ahS;rw[hl9] at hj
    have ha':b.2.2.2.1[j]?=some a:=by rwa [List.getElem?_take_of_lt hj] at ha
    rw[Ú (show ilt (j:Int) (i:Int)=true by simp[ilt]; omega),Ë ha',Ë ha',Ë ha',Ñ hj (by omega)]
    cases hq:(a.1==l.1) with
    |false=>have:ieq a.1 l.1=false:=hq; simp[this]
    |true =>
     have:ieq a.1 l.1=true:=hq;rw[this]
     cases h5:decide (a.2.1.1≤l.2.1.2)<;>cases h6:decide (l.2.1.1≤a.2.1.2)<;>simp[ile,h5,h6,Ĥ]<;>simp_all
   ·try dsimp only
    unfold ahS;rw[hl9,Õ (show ilt (i:Int) (i:Int)=false by simp[ilt])]
   ·simp only[hz]
    cases List.any (b.2.2.2.1.take i) _<;>cases b.2.2.1.any _<;>rfl
  ·rw[Ú (by simp[ine,hz])]; simp[hz]
 ·try dsimp only
  unfold ahT;rw[ã]
 ·rw[aFn (aHY b)]
  cases(b.2.2.2.1.mapIdx (aHY b)).find? (fun e=>e != 0)<;>rfl
def aq2 (b:â) (c:Cmp):Int :=
 if (c.2.2.1++c.2.2.2.1).any (fun id=>ο b id c.2.1==5) then 5 else
 if (c.2.2.1++c.2.2.2.1).any (fun id=>ο b id c.2.1 != 0) then 4 else
 if (c.2.2.1++c.2.2.2.1).any (fun id=>(af6 b id c.2.1).isSome) then 9 else
 if 1<(ë c.2.2.1 c.2.2.2.1).length then 1 else if 1<(ë c.2.2.2.1 c.2.2.1).length then 1 else
 if (ë c.2.2.1 c.2.2.2.1).length+(ë c.2.2.2.1 c.2.2.1).length=0 then 1 else 0
theorem aZE {b:â} (hi:b.2.1.Pairwise fun a b=>a.1<b.1) (c:Cmp):aq2 b c=aq3 b (ady b) c:=by
 unfold aq2 aq3;simp only[asn hi]
 by_cases h5:(c.2.2.1++c.2.2.2.1).any (fun id=>ag2 (ady b) id c.2.1==5)=true
 ·rw[if_pos h5,if_pos h5]
 ·rw[if_neg h5,if_neg h5]
  have e:(c.2.2.1++c.2.2.2.1).any (fun id=>ag2 (ady b) id c.2.1 != 0)=(c.2.2.1++c.2.2.2.1).any (fun id=>ag2 (ady b) id c.2.1==4):=by
   rw[Bool.eq_iff_iff,List.any_eq_true,List.any_eq_true];constructor
   ·rintro⟨x,hx,h⟩;refine⟨x,hx,?_⟩;rcases aCM (ady b) x c.2.1 with h1|h1|h1
    ·rw[h1] at h; cases h
    ·rw[h1]; rfl
    ·exact absurd (List.any_eq_true.2 ⟨x,hx,by rw[h1]; rfl⟩) h5
   ·rintro⟨x,hx,h⟩;refine⟨x,hx,?_⟩;rw[eq_of_beq h]; rfl
  rw[e]
theorem aQ2 {b:â} {id d:Int}:(ο b id d==5)=(b.2.1.findIdx? (fun g=>g.1==id)).isNone:=by
 unfold ο;rcases aqn (b:=b) (id:=id) with⟨j,g,h1,h2,h3⟩|⟨h1,h2⟩
 ·rw[h1,h3]
  try dsimp only
  split<;>rfl
 ·rw[h1,h2]; rfl
set_option maxHeartbeats 1000000 in
theorem aQH {b:â} (hs:Ż b) {c:Cmp} (hA:c.2.2.1.length≤1000) (hB:c.2.2.2.1.length≤1000):aew b c=some (aq2 b c):=by
 have h1:=hs.gauges;have h3:=hs.loans;unfold aew al8 aq2;rw[Ù (by omega),Am.iff_true,List.nil_append,Ù (by omega),Am.iff_true]
 have hl:(c.2.2.1++c.2.2.2.1).length≤2000:=by rw[List.length_append]; omega
 generalize hP:c.2.2.1++c.2.2.2.1=P at hl
 have hol:∀{i:Nat},i<P.length→((ile (0:Int) (i:Int))&&(ilt (i:Int) (Đ P)))=true:=fun {i} hi=>by simp[ile,ilt,Đ]; omega
 have third:Ì (fun(v19:Int) kk21=>Ζ b.1.1 b.1.2 b.2.1 b.2.2.1 b.2.2.2.1 b.2.2.2.2.1 b.2.2.2.2.2 c.2.1 P v19 (fun u20=>kk21 u20) (fun z14=>some z14) (fun _=>Â (aeN c.2.2.1 c.2.2.2.1) fun r16=>Â (aeN c.2.2.2.1 c.2.2.1) fun r17=>ifb (igt (Û r16) (1:Int)) (some (1:Int)) (ifb (igt (Û r17) (1:Int)) (some (1:Int)) (ck ((Û r16)+(Û r17)) fun n18=>ifb (ieq n18 (0:Int)) (some (1:Int)) (some (0:Int)))))) (0:Int) =
  some (if P.any (fun id=>(af6 b id c.2.1).isSome) then 9 else if 1<(ë c.2.2.1 c.2.2.2.1).length then 1 else if 1<(ë c.2.2.2.1 c.2.2.1).length then 1 else if (ë c.2.2.1 c.2.2.2.1).length+(ë c.2.2.2.1 c.2.2.1).length=0 then 1 else 0):=by
  refine Eq.trans (Ĺ P (fun id=>(af6 b id c.2.1).isSome) (fun _=>some 9) (some 9) (some (if 1<(ë c.2.2.1 c.2.2.2.1).length then 1 else if 1<(ë c.2.2.2.1 c.2.2.1).length then 1 else if (ë c.2.2.1 c.2.2.2.1).length+(ë c.2.2.2.1 c.2.2.1).length=0 then 1 else 0)) (fun _=>rfl) (fun i a hi ha kn=>?_) (fun kn=>?_)) ?_
  ·try dsimp only
   unfold Ζ;rw[Ö hi,ģ (hol hi),Ĭ ha,aUt (b:=((b.1.1,b.1.2),b.2.1,b.2.2.1,b.2.2.2.1,b.2.2.2.2.1,b.2.2.2.2.2)) (by simp only; omega),À,Ñ hi (by omega)];have e:af6 ((b.1.1,b.1.2),b.2.1,b.2.2.1,b.2.2.2.1,b.2.2.2.2.1,b.2.2.2.2.2) a c.2.1=af6 b a c.2.1:=rfl;rw[e]
   cases af6 b a c.2.1<;>rfl
  ·try dsimp only
   unfold Ζ;rw[ã];dsimp only;have l1:=apx c.2.2.1 c.2.2.2.1;have l2:=apx c.2.2.2.1 c.2.2.1;rw[aM7 (by omega) (by omega),À,aM7 (by omega) (by omega),À];simp only[ç]
   by_cases q1:1<(ë c.2.2.1 c.2.2.2.1).length
   ·rw[Ú (by simp[igt]; omega),if_pos q1]
   ·rw[Õ (by simp[igt]; omega),if_neg q1]
    by_cases q2:1<(ë c.2.2.2.1 c.2.2.1).length
    ·rw[Ú (by simp[igt]; omega),if_pos q2]
    ·rw[Õ (by simp[igt]; omega),if_neg q2,Ø (by omega) (by omega)]
     by_cases q3:(ë c.2.2.1 c.2.2.2.1).length+(ë c.2.2.2.1 c.2.2.1).length=0
     ·rw[Ú (by simp[ieq]; omega),if_pos q3]
     ·rw[Õ (by simp[ieq]; omega),if_neg q3]
  ·cases P.any _<;>rfl
 have second:Ì (fun(v22:Int) kk24=>adT b.1.1 b.1.2 b.2.1 b.2.2.1 b.2.2.2.1 b.2.2.2.2.1 b.2.2.2.2.2 c.2.1 P v22 (fun u23=>kk24 u23) (fun z9=>some z9) (fun _=>Ì (fun(v19:Int) kk21=>Ζ b.1.1 b.1.2 b.2.1 b.2.2.1 b.2.2.2.1 b.2.2.2.2.1 b.2.2.2.2.2 c.2.1 P v19 (fun u20=>kk21 u20) (fun z14=>some z14) (fun _=>Â (aeN c.2.2.1 c.2.2.2.1) fun r16=>Â (aeN c.2.2.2.1 c.2.2.1) fun r17=>ifb (igt (Û r16) (1:Int)) (some (1:Int)) (ifb (igt (Û r17) (1:Int)) (some (1:Int)) (ck ((Û r16)+(Û r17)) fun n18=>ifb (ieq n18 (0:Int)) (some (1:Int)) (some (0:Int)))))) (0:Int))) (0:Int) =
  some (if P.any (fun id=>ο b id c.2.1 != 0) then 4 else if P.any (fun id=>(af6 b id c.2.1).isSome) then 9 else if 1<(ë c.2.2.1 c.2.2.2.1).length then 1 else if 1<(ë c.2.2.2.1 c.2.2.1).length then 1 else if (ë c.2.2.1 c.2.2.2.1).length+(ë c.2.2.2.1 c.2.2.1).length=0 then 1 else 0):=by
  rw[third];refine Eq.trans (Ĺ P (fun id=>ο b id c.2.1 != 0) (fun _=>some 4) (some 4) (some (if P.any (fun id=>(af6 b id c.2.1).isSome) then 9 else if 1<(ë c.2.2.1 c.2.2.2.1).length then 1 else if 1<(ë c.2.2.2.1 c.2.2.1).length then 1 else if (ë c.2.2.1 c.2.2.2.1).length+(ë c.2.2.2.1 c.2.2.1).length=0 then 1 else 0)) (fun _=>rfl) (fun i a hi ha kn=>?_) (fun kn=>?_)) ?_
  ·try dsimp only
   unfold adT;rw[Ö hi,ģ (hol hi),Ĭ ha,aw2 (b:=((b.1.1,b.1.2),b.2.1,b.2.2.1,b.2.2.2.1,b.2.2.2.2.1,b.2.2.2.2.2)) (by simp only; omega),À,Ñ hi (by omega)];have e:ο ((b.1.1,b.1.2),b.2.1,b.2.2.1,b.2.2.2.1,b.2.2.2.2.1,b.2.2.2.2.2) a c.2.1=ο b a c.2.1:=rfl;rw[e,Ĥ]
  ·try dsimp only
   unfold adT;rw[ã]
  ·cases P.any (fun id=>ο b id c.2.1 != 0)<;>rfl
 rw[second];refine Eq.trans (Ĺ P (fun id=>ο b id c.2.1==5) (fun _=>some 5) (some 5) (some (if P.any (fun id=>ο b id c.2.1 != 0) then 4 else if P.any (fun id=>(af6 b id c.2.1).isSome) then 9 else if 1<(ë c.2.2.1 c.2.2.2.1).length then 1 else if 1<(ë c.2.2.2.1 c.2.2.1).length then 1 else if (ë c.2.2.1 c.2.2.2.1).length+(ë c.2.2.2.1 c.2.2.1).length=0 then 1 else 0)) (fun _=>rfl) (fun i a hi ha kn=>?_) (fun kn=>?_)) ?_
 ·try dsimp only
  unfold aeV;rw[Ö hi,ģ (hol hi),Ĭ ha,aB5 (b:=((b.1.1,b.1.2),b.2.1,b.2.2.1,b.2.2.2.1,b.2.2.2.2.1,b.2.2.2.2.2)) (by simp only; omega),À,Ñ hi (by omega),aQ2]
  try dsimp only
  cases List.findIdx? (fun g:î=>g.1==a) b.2.1 with
  |none=>rfl
  |some j =>
   have:ilt (j:Int) 0=false:=by simp[ilt]
   rw[Õ this]; rfl
 ·try dsimp only
  unfold aeV;rw[ã]
 ·cases P.any (fun id=>ο b id c.2.1==5)<;>rfl
end Go.Proofs.ZzM
end
noncomputable section
namespace Go.Proofs.ZzM
open Go Go.Am
structure Pre (b:â):Prop where
 size:Ż b
 gauge:∀g∈b.2.1,aiV g=true
 cmp:∀c∈b.2.2.2.2.1,aw6 c.2.1=true∧(ë c.2.2.1 c.2.2.2.1).length≤1∧(ë c.2.2.2.1 c.2.2.1).length≤1
 look:∀n∈b.2.2.2.2.2,aw6 n.2=true
theorem aOh {c:Cmp} (h:aAA c=true):aw6 c.2.1=true:=by
 have:=((Ο c).1 h).2.1;simp[aw6,inP,this.1,this.2]
theorem ę.pre {b:â} (h:ę b):Pre b :=
 ⟨h.size,h.gauge,fun c hc=>⟨aOh (h.nums hc),(h.lefts hc).1,(h.lefts hc).2.1⟩,fun n hn=>(by have:=(aNg h (h.looks n hn)).1; simp[aw6,inP,this.1,this.2])⟩
theorem aJ8 {a b:List Int} (h:(ë a b).length≤1) {id:Int} (h0:id≠0):aAz a b=id↔id∈a∧id∉b:=by
 rw[←aeL];unfold aAz
 cases hl:ë a b with
 |nil =>
  simp only[List.head?_nil,Option.getD_none,List.not_mem_nil,iff_false];exact fun e=>h0 e.symm
 |cons x t =>
  have:t=[]:=by
   rw[hl] at h;simp only[List.length_cons] at h;exact List.length_eq_zero_iff.1 (by omega)
  subst this;simp only[List.head?_cons,Option.getD_some,List.mem_singleton];exact eq_comm
def aBy (b:â) (g:î) (d:Int):Bool :=
 g.2.1==d||b.2.2.2.2.1.any (fun c=>c.2.1==d&&(aAz c.2.2.1 c.2.2.2.1==g.1||aAz c.2.2.2.1 c.2.2.1==g.1))||b.2.2.2.2.2.any (fun n=>n.1==g.1&&n.2==d)
theorem a0W {b:â} (hs:Ż b) (g:î) (d:Int):aww b g d=some (aBy b g d):=by
 have h1:=hs.compares;have h2:=hs.looks;unfold aww aCZ aBy
 cases hm:(g.2.1==d) with
 |true =>
  have:ieq g.2.1 d=true:=hm;rw[Ú this];simp
 |false =>
  have:ieq g.2.1 d=false:=hm;rw[Õ this]
  have inner:Ì (fun(v14:Int) kk16=>aha d b.2.2.2.2.2 g.1 v14 (fun u15=>kk16 u15) (fun z12=>some z12) (fun _=>some false)) (0:Int)=some (b.2.2.2.2.2.any (fun n=>n.1==g.1&&n.2==d)):=by
   refine Eq.trans (Ĺ b.2.2.2.2.2 (fun n=>n.1==g.1&&n.2==d) (fun _=>some true) (some true) (some false) (fun _=>rfl) (fun i a hi ha kn=>?_) (fun kn=>?_)) ?_
   ·try dsimp only
    unfold aha;rw[Ö hi,Ë ha,Ë ha,Ñ hi (by omega)]
    cases h1:(a.1==g.1) with
    |false=>have:ieq a.1 g.1=false:=h1; simp[this]
    |true =>
     have:ieq a.1 g.1=true:=h1;rw[this]
     cases h2:(a.2==d) with
     |false=>have:ieq a.2 d=false:=h2; simp[this]
     |true=>have:ieq a.2 d=true:=h2; simp[this]
   ·try dsimp only
    unfold aha;rw[ã]
   ·cases b.2.2.2.2.2.any _<;>rfl
  rw[inner];refine Eq.trans (Ĺ b.2.2.2.2.1 (fun c=>c.2.1==d&&(aAz c.2.2.1 c.2.2.2.1==g.1||aAz c.2.2.2.1 c.2.2.1==g.1)) (fun _=>some true) (some true) (some (b.2.2.2.2.2.any (fun n=>n.1==g.1&&n.2==d))) (fun _=>rfl) (fun i a hi ha kn=>?_) (fun kn=>?_)) ?_
  ·have hp:=hs.piles a (List.mem_of_getElem? ha)
   try dsimp only
   unfold aju;rw[Ö hi,Ë ha,ay4 (by omega) (by omega),ay4 (by omega) (by omega),Ñ hi (by omega)];simp only[À]
   cases h1:(a.2.1==d) with
   |false=>have:ieq a.2.1 d=false:=h1; simp[this]
   |true =>
    have:ieq a.2.1 d=true:=h1;rw[this]
    cases h2:(aAz a.2.2.1 a.2.2.2.1==g.1) with
    |true=>have:ieq (aAz a.2.2.1 a.2.2.2.1) g.1=true:=h2; simp[this]
    |false =>
     have:ieq (aAz a.2.2.1 a.2.2.2.1) g.1=false:=h2;rw[this]
     cases h3:(aAz a.2.2.2.1 a.2.2.1==g.1) with
     |true=>have:ieq (aAz a.2.2.2.1 a.2.2.1) g.1=true:=h3; simp[this]
     |false=>have:ieq (aAz a.2.2.2.1 a.2.2.1) g.1=false:=h3; simp[this]
  ·try dsimp only
   unfold aju;rw[ã]
  ·cases b.2.2.2.2.1.any _<;>rfl
theorem aYG {b:â} (h:Pre b) {g:î} (hg:g∈b.2.1) {d:Int}:aBy b g d=true↔d∈á b g:=by
 have hid:g.1≠0:=by
  have:=((alz g).1 (h.gauge g hg)).2.2.2.1;omega
 rw[aeR];unfold aBy;simp only[Bool.or_eq_true,List.any_eq_true,Bool.and_eq_true,beq_iff_eq,or_assoc];refine or_congr eq_comm (or_congr ?_ Iff.rfl);constructor
 ·rintro⟨c,hc,e,h1⟩;obtain⟨_,l1,l2⟩:=h.cmp c hc;refine⟨c,hc,?_,e⟩;rw[aJ8 l1 hid,aJ8 l2 hid] at h1;intro he;rw[Bool.eq_iff_iff,List.contains_iff_mem,List.contains_iff_mem] at he;rcases h1 with⟨x,y⟩|⟨x,y⟩
  ·exact y (he.1 x)
  ·exact y (he.2 x)
 ·rintro⟨c,hc,h1,e⟩;obtain⟨_,l1,l2⟩:=h.cmp c hc;refine⟨c,hc,e,?_⟩;rw[aJ8 l1 hid,aJ8 l2 hid]
  by_cases ha:g.1∈c.2.2.1
  ·by_cases hb:g.1∈c.2.2.2.1
   ·exact absurd (by rw[Bool.eq_iff_iff,List.contains_iff_mem,List.contains_iff_mem]; exact⟨fun _=>hb,fun _=>ha⟩) h1
   ·exact .inl ⟨ha,hb⟩
  ·by_cases hb:g.1∈c.2.2.2.1
   ·exact .inr ⟨hb,ha⟩
   ·exact absurd (by rw[Bool.eq_iff_iff,List.contains_iff_mem,List.contains_iff_mem]; exact⟨fun x=>absurd x ha,fun x=>absurd x hb⟩) h1
def nx (v:Int) (D:List Int):Int:=D.foldl (fun m d=>if v<d then min m d else m) 20001
theorem aWR (v:Int) (D:List Int) (d:Int):nx v (D++[d])=if v<d then min (nx v D) d else nx v D:=by
 unfold nx;rw[List.foldl_append];rfl
theorem aJ9 (v:Int):∀D:List Int,nx v D≤20001∧(∀d∈D,v<d→nx v D≤d)∧(nx v D=20001∨(nx v D∈D∧v<nx v D)):=by
 suffices H:∀(n:Nat) (D:List Int),D.length=n→nx v D≤20001∧(∀d∈D,v<d→nx v D≤d)∧(nx v D=20001∨(nx v D∈D∧v<nx v D)) from fun D=>H _ D rfl
 intro n
 induction n with
 |zero =>
  intro D hD;rw[List.length_eq_zero_iff.1 hD];exact⟨Int.le_refl _,by simp,.inl rfl⟩
 |succ n ih =>
  intro D' hD'
  obtain⟨D,d,rfl⟩:∃D d,D'=D++[d]:=by
   rcases List.eq_nil_or_concat D' with rfl|⟨L,b,rfl⟩
   ·simp at hD'
   ·exact⟨L,b,by simp⟩
  obtain⟨h1,h2,h3⟩:=ih D (by simpa using hD');rw[aWR]
  by_cases hd:v<d
  ·rw[if_pos hd];refine⟨by omega,fun x hx hv=>?_,?_⟩
   ·rcases List.mem_append.1 hx with hx|hx
    ·have:=h2 x hx hv; omega
    ·rw[List.mem_singleton] at hx; omega
   ·rcases Int.le_total (nx v D) d with h|h
    ·rw[Int.min_eq_left h];rcases h3 with h3|h3
     ·exact .inl h3
     ·exact .inr ⟨by simp[h3.1],h3.2⟩
    ·rw[Int.min_eq_right h];exact .inr ⟨by simp,hd⟩
  ·rw[if_neg hd];refine⟨h1,fun x hx hv=>?_,?_⟩
   ·rcases List.mem_append.1 hx with hx|hx
    ·exact h2 x hx hv
    ·rw[List.mem_singleton] at hx; omega
   ·rcases h3 with h3|h3
    ·exact .inl h3
    ·exact .inr ⟨by simp[h3.1],h3.2⟩
theorem a1O {D:List Int} (hD:D.length≤1000000) (v:Int) (K:Int→Option (List (Int×Int))) :
 Ì (fun(v18:Int×Int) kk21=>afM v D v18.1 v18.2 (fun u19 u20=>kk21 (u19,u20)) K) ((20001:Int),(0:Int))=K (nx v D):=by
 refine ł (fun x:Int×Int=>∃k:Nat,k≤D.length∧x=(nx v (D.take k),(k:Int))) (fun x=>D.length-x.2.toNat) ?_ ⟨0,by omega,rfl⟩;rintro x ⟨k,hk,rfl⟩;rcases Nat.lt_or_ge k D.length with hlt|hge
 ·refine .inr ⟨(nx v (D.take (k+1)),((k+1:Nat):Int)),⟨k+1,hlt,rfl⟩,by simp only[Int.toNat_natCast]; omega,fun kn=>?_⟩;have ha:D[k]?=some D[k]:=List.getElem?_eq_getElem hlt;unfold afM;have ho:Đ D=((D.length:Nat):Int):=rfl;rw[Ö hlt,ho,adn hlt,Ĭ ha,take_succ ha,aWR]
  by_cases h:v<D[k]
  ·rw[Ú (by simpa[igt] using h),adn hlt,Ĭ ha,Ñ hlt (by omega),if_pos h,apz];simp
  ·rw[Õ (by simpa[igt] using h),Ñ hlt (by omega),if_neg h];simp
 ·have:k=D.length:=by omega
  subst this;refine .inl fun kn=>?_;unfold afM;rw[ã,List.take_length]
def aVP (b:â) (g:î) (D:List Int) (v:Int):List Int:=(aNy D).filter fun d=>decide (v<d)&&aBy b g d
theorem aF2 {b:â} {g:î} {D:List Int} (hD:∀d∈D,d≤20000) (v:Int):aVP b g D v=if nx v D<20001 then(if aBy b g (nx v D) then nx v D::aVP b g D (nx v D) else aVP b g D (nx v D)) else[]:=by
 obtain⟨h1,h2,h3⟩:=aJ9 v D;refine aSO ((asp D).sublist List.filter_sublist) ?_ fun x=>?_
 ·split
  ·split
   ·rw[List.pairwise_cons];refine⟨fun a ha=>?_,(asp D).sublist List.filter_sublist⟩;have:=(List.mem_filter.1 ha).2;simp at this;omega
   ·exact(asp D).sublist List.filter_sublist
  ·exact List.Pairwise.nil
 ·have hm:∀v x,x∈aVP b g D v↔x∈D∧v<x∧aBy b g x=true:=by
   intro v x;unfold aVP;rw[List.mem_filter,aji];simp
  rw[hm]
  split
  ·rename_i hlt
   have h4:nx v D∈D∧v<nx v D:=by
    rcases h3 with h3|h3
    ·omega
    ·exact h3
   split
   ·rename_i ha;rw[List.mem_cons,hm];constructor
    ·rintro⟨a,c,e⟩;have:=h2 x a c;rcases Int.lt_or_eq_of_le this with h|h
     ·exact .inr ⟨a,h,e⟩
     ·exact .inl h.symm
    ·rintro(rfl|⟨a,c,e⟩)
     ·exact⟨h4.1,h4.2,ha⟩
     ·exact⟨a,by omega,e⟩
   ·rename_i ha;rw[hm];constructor
    ·rintro⟨a,c,e⟩;have:=h2 x a c;rcases Int.lt_or_eq_of_le this with h|h
     ·exact⟨a,h,e⟩
     ·rw[←h] at e; exact absurd e ha
    ·rintro⟨a,c,e⟩;exact⟨a,by omega,e⟩
  ·rename_i hge;constructor
   ·rintro⟨a,c,e⟩;have:=h2 x a c;have:=hD x a;omega
   ·intro h; cases h
theorem a0M {b:â} {g:î} {D:List Int} (v:Int):(aVP b g D v).length≤D.length :=
 Nat.le_trans (List.length_filter_le _ _) (atM D)
set_option maxHeartbeats 1000000 in
theorem a0k {b:â} (hs:Ż b) {i:Nat} {g:î} (hg:b.2.1[i]?=some g) {D:List Int} (hl:D.length≤1000000) (hD:∀d∈D,d≤20000) {out:List (Int×Int)} (ho:out.length+D.length≤1000000000) (K:List (Int×Int)→Option (List (Int×Int))) :
 Ì (fun(v24:Int×List (Int×Int)) kk27=>afN (i:Int) b.1.1 b.1.2 b.2.1 b.2.2.1 b.2.2.2.1 b.2.2.2.2.1 b.2.2.2.2.2 D v24.1 v24.2 (fun u25 u26=>kk27 (u25,u26)) K) ((-1:Int),out)=K (out++(aVP b g D (-1)).map fun d=>((g.1,d):Int×Int)):=by
 refine ł (fun x:Int×List (Int×Int)=>x.2++(aVP b g D x.1).map (fun d=>((g.1,d):Int×Int))=out++(aVP b g D (-1)).map fun d=>((g.1,d):Int×Int)) (fun x=>(20001-x.1).toNat) ?_ rfl;rintro⟨v,o⟩ hI;simp only at hI
 by_cases hv:v<20001
 ·obtain⟨h1,h2,h3⟩:=aJ9 v D
  have hlt:v<nx v D:=by
   rcases h3 with h3|h3
   ·omega
   ·exact h3.2
  refine .inr ⟨(nx v D,if nx v D<20001∧aBy b g (nx v D)=true then o++[(g.1,nx v D)] else o),?_,by simp only; omega,fun kn=>?_⟩
  ·rw[←hI];simp only;rw[aF2 hD v]
   by_cases ha:nx v D<20001
   ·rw[if_pos ha]
    cases hq:aBy b g (nx v D) with
    |true=>rw[if_pos ⟨ha,rfl⟩,if_pos rfl]; simp
    |false=>rw[if_neg (by simp),if_neg (by simp)]
   ·rw[if_neg (by omega),if_neg ha]
    have:aVP b g D (nx v D)=[]:=by
     have e:=aF2 (b:=b) (g:=g) hD (nx v D);rw[e,if_neg];obtain⟨g1,g2,g3⟩:=aJ9 (nx v D) D;rcases g3 with g3|g3
     ·omega
     ·have:=hD _ g3.1; omega
    rw[this]
  ·unfold afN;rw[Ú (by simpa[ilt] using hv)];refine Eq.trans (a1O hl v _) ?_;dsimp only
   by_cases ha:nx v D<20001
   ·rw[Ú (by simpa[ilt] using ha),Ë hg,a0W (b:=((b.1.1,b.1.2),b.2.1,b.2.2.1,b.2.2.2.1,b.2.2.2.2.1,b.2.2.2.2.2)) ⟨hs.gauges,hs.uses,hs.loans,hs.compares,hs.looks,hs.piles⟩,À];have e:aBy ((b.1.1,b.1.2),b.2.1,b.2.2.1,b.2.2.2.1,b.2.2.2.2.1,b.2.2.2.2.2) g (nx v D)=aBy b g (nx v D):=rfl;rw[e]
    cases hq:aBy b g (nx v D) with
    |true =>
     have hol:o.length≤1000000000:=by
      have:=congrArg List.length hI;simp only[List.length_append,List.length_map] at this;have:=a0M (b:=b) (g:=g) (D:=D) (-1);omega
     rw[Ú rfl,Ë hg,Ù (by simp only[List.length_singleton]; omega),Am.iff_true,if_pos ⟨ha,rfl⟩]
    |false=>rw[Õ rfl,if_neg (by simp)]
   ·rw[Õ (by simpa[ilt] using ha),if_neg (by omega)]
 ·refine .inl fun kn=>?_;unfold afN;rw[Õ (by simpa[ilt] using hv)]
  have:aVP b g D v=[]:=by
   rw[aF2 hD,if_neg];obtain⟨g1,g2,g3⟩:=aJ9 v D;rcases g3 with g3|g3
   ·omega
   ·have:=hD _ g3.1; omega
  rw[this] at hI;simp only[List.map_nil,List.append_nil] at hI;rw[hI]
def apX (b:â):List Int:=b.2.1.map (fun g=>g.2.1)++b.2.2.2.2.1.map (fun c=>c.2.1)++b.2.2.2.2.2.map fun n=>n.2
theorem aSP {b:â} (hs:Ż b):(apX b).length≤3000:=by
 have h1:=hs.gauges; have h2:=hs.compares; have h3:=hs.looks;simp only[apX,List.length_append,List.length_map];omega
theorem Pre.days {b:â} (h:Pre b):∀d∈apX b,0≤d∧d≤20000:=by
 intro d hd;simp only[apX,List.mem_append,List.mem_map] at hd;rcases hd with(⟨g,hg,rfl⟩|⟨c,hc,rfl⟩)|⟨n,hn,rfl⟩
 ·have:=((alz g).1 (h.gauge g hg)).2.2.2.2.1;omega
 ·have:=(h.cmp c hc).1;simp only[aw6,inP,Bool.and_eq_true,decide_eq_true_eq] at this;exact this
 ·have:=h.look n hn;simp only[aw6,inP,Bool.and_eq_true,decide_eq_true_eq] at this;exact this
theorem aYH {b:â} (h:Pre b) {g:î} (hg:g∈b.2.1):aVP b g (apX b) (-1)=á b g:=by
 refine aSO ((asp _).sublist List.filter_sublist) (ana b g) fun x=>?_;unfold aVP;rw[List.mem_filter,aji,Bool.and_eq_true,aYG h hg,decide_eq_true_eq];constructor
 ·exact fun hx=>hx.2.2
 ·intro hx
  have hm:x∈apX b:=by
   simp only[apX,List.mem_append,List.mem_map];rcases aeR.1 hx with e|⟨c,hc,_,e⟩|⟨n,hn,_,e⟩
   ·exact .inl (.inl ⟨g,hg,e.symm⟩)
   ·exact .inl (.inr ⟨c,hc,e⟩)
   ·exact .inr ⟨n,hn,e⟩
  have:=h.days x hm;exact⟨hm,by omega,hx⟩
theorem aKg {α:Type} (f:α→Int) (l:List α) (s:List Int) (i:Nat) {a:α} (ha:l[i]?=some a):s++(l.take (i+1)).map f=(s++(l.take i).map f)++[f a]:=by
 rw[take_succ ha,List.map_append,List.append_assoc]; rfl
theorem aw3 {b:â} (h:Pre b):aex b=some (Î b):=by
 have h1:=h.size.gauges; have h2:=h.size.compares; have h3:=h.size.looks;have hl:=aSP h.size;unfold aex axB;refine ñ b.2.1 (fun i=>(b.2.1.take i).map (fun g=>g.2.1)) _ rfl (fun i a hi ha kn=>?_) (fun kn=>?_)
 ·try dsimp only
  unfold ahX;have:=aKg (fun g:î=>g.2.1) b.2.1 [] i ha;simp only[List.nil_append] at this;rw[Ö hi,Ë ha,Ù (by simp only[List.length_map,List.length_take,List.length_singleton]; omega),Am.iff_true,Ñ hi (by omega),this]
 ·try dsimp only
  unfold ahX;rw[ã,List.take_length];dsimp only;refine ñ b.2.2.2.2.1 (fun i=>b.2.1.map (fun g=>g.2.1)++(b.2.2.2.2.1.take i).map (fun c=>c.2.1)) _ (by simp) (fun i a hi ha kn=>?_) (fun kn=>?_)
  ·try dsimp only
   unfold ahW;rw[Ö hi,Ë ha,Ù (by simp only[List.length_append,List.length_map,List.length_take,List.length_singleton]; omega),Am.iff_true,Ñ hi (by omega),aKg (fun c:Cmp=>c.2.1) b.2.2.2.2.1 _ i ha]
  ·try dsimp only
   unfold ahW;rw[ã,List.take_length];dsimp only;refine ñ b.2.2.2.2.2 (fun i=>b.2.1.map (fun g=>g.2.1)++b.2.2.2.2.1.map (fun c=>c.2.1)++(b.2.2.2.2.2.take i).map (fun n=>n.2)) _ (by simp) (fun i a hi ha kn=>?_) (fun kn=>?_)
   ·try dsimp only
    unfold ahV;rw[Ö hi,Ë ha,Ù (by simp only[List.length_append,List.length_map,List.length_take,List.length_singleton]; omega),Am.iff_true,Ñ hi (by omega),aKg (fun n:Int×Int=>n.2) b.2.2.2.2.2 _ i ha]
   ·try dsimp only
    unfold ahV;rw[ã,List.take_length];dsimp only;rw[show b.2.1.map (fun g=>g.2.1)++b.2.2.2.2.1.map (fun c=>c.2.1)++b.2.2.2.2.2.map (fun n=>n.2)=apX b from rfl];refine ñ b.2.1 (fun i=>(b.2.1.take i).flatMap fun g=>(á b g).map fun d=>((g.1,d):Int×Int)) _ rfl (fun i g hi hg kn=>?_) (fun kn=>?_)
    ·try dsimp only
     unfold ahU;rw[Ö hi]
     have hlen:((b.2.1.take i).flatMap fun g=>(á b g).map fun d=>((g.1,d):Int×Int)).length≤2001000:=by
      have:=amY (fun g:î=>(á b g).map fun d=>((g.1,d):Int×Int)) 2001 (fun g=>by rw[List.length_map]; exact awP h.size g) (b.2.1.take i);rw[List.length_take] at this;have:min i b.2.1.length*2001≤1000*2001:=Nat.mul_le_mul_right _ (by omega);omega
     refine Eq.trans (a0k h.size hg (by omega) (fun d hd=>(h.days d hd).2) (by omega) _) ?_;rw[Ñ hi (by omega),aYH h (List.mem_of_getElem? hg),take_succ hg,List.flatMap_append];simp
    ·try dsimp only
     unfold ahU;rw[ã,List.take_length];rfl
end Go.Proofs.ZzM
end
noncomputable section
namespace Go.Proofs.ZzM
open Go Go.Am
theorem aJC {n d:Int} (hd:0<d) (hn:n.natAbs≤2147483647) (hd2:d≤2147483647):ai0 n d=some (ahv n d,0):=by
 obtain⟨g,h0,hg,h1,h2⟩:=ap5 (n:=n) hd;have hr:=(aeU _).1 (aJQ hd hn hd2)
 have z:Ă d 0=false:=by simp[Ă]; omega
 have zg:Ă (g:Int) 0=false:=by simp[Ă]; omega
 unfold ai0 asT
 by_cases hn0:n=0
 ·subst hn0
  have e:ahv 0 d=(0,1):=by
   unfold ahv
   have:(Nat.gcd (0:Int).natAbs d.natAbs:Int)=d:=by simp; omega
   rw[this,Int.ediv_self (by omega)];simp
  rw[Õ (by rfl),Õ z,Ø (by simp) (by simp),Õ z,Int.tdiv_self (by omega),Ø (by omega) (by omega),Int.zero_tdiv,e];rfl
 ·rw[Ú (by simpa[ine] using hn0),Õ z];have a0:(Int.tmod n d).natAbs=n.natAbs % d.natAbs:=Int.natAbs_tmod n d;have hlt:=Nat.mod_lt n.natAbs (show 0<d.natAbs by omega);rw[aYX ⟨by omega,by omega⟩,À]
  have ed:d=((d.natAbs:Nat):Int):=by omega
  have eg:aqv ((Int.tmod n d).natAbs:Int) d=some (g:Int):=by
   have:=aYV (Int.tmod n d).natAbs d.natAbs;rw[←ed] at this;rw[this,a0,hg];congr 2;rw[Nat.gcd_comm n.natAbs,Nat.gcd_rec d.natAbs n.natAbs]
  rw[eg,À,Õ zg]
  have q1:Int.tdiv n (g:Int)=(ahv n d).1:=by
   conv=>lhs; rw[h1]
   exact Int.mul_tdiv_cancel _ (by omega)
  have q2:Int.tdiv d (g:Int)=(ahv n d).2:=by
   conv=>lhs; rw[h2]
   exact Int.mul_tdiv_cancel _ (by omega)
  rw[q1,q2,Ø (by omega) (by omega),Õ zg,Ø (by omega) (by omega),Õ (by simp[igt]; omega),Õ (by simp[ilt]; omega),Õ (by simp[igt]; omega)]
theorem a2p {x y:Int×Int} (hx:aje x 1000 100) (hy:aje y 1000 100):aBZ x y=some (subP x y,0):=by
 obtain⟨b1,b2,b3⟩:=aw9 hx hy;have h1:=agR hx.num (show -100≤y.2∧y.2≤100 from⟨by have:=hy.pos; omega,hy.den⟩);have h2:=agR hy.num (show -100≤x.2∧x.2≤100 from⟨by have:=hx.pos; omega,hx.den⟩);have h3:=hy.num;unfold aBZ aKR aMB aKT aMC aKZ;rw[Ø (by omega) (by omega),À];dsimp only
 have e:(0-y.1)*x.2 = -(y.1*x.2):=by rw[Int.zero_sub,Int.neg_mul]
 rw[Ø (by omega) (by omega),e,Ø (by omega) (by omega),Ø (by omega) (by omega),Ø (by omega) (by omega)]
 have e2:x.1*y.2 + -(y.1*x.2)=x.1*y.2-y.1*x.2:=by omega
 rw[e2,aJC b2 (by omega) (by omega),À,À];rfl
theorem aYT {k:Int×Int} (hk:aje k 200000 10000) {n:Int} (hn : -10000≤n∧n≤10000):am3 (n,1) k=some (aun k n,0):=by
 have b:=axq hk hn;have p:=hk.pos;have q:=hk.den;unfold am3 aKU;have e:n*k.1=k.1*n:=Int.mul_comm _ _;dsimp only;rw[e,Int.one_mul,Ø (by omega) (by omega),Ø (by omega) (by omega),aJC (by omega) (by omega) (by omega),À];rfl
theorem aYS {k:Int×Int} (hk:aje k 200000 10000) {heat:Int×Int} (hh:aeE heat (-10000) 10000=true):aqu ((heat.1,1),(heat.2,1)) k=some (aJ6 k heat,0):=by
 simp only[aeE,Bool.and_eq_true,decide_eq_true_eq] at hh;have hp:=hk.pos;rw[aUP (by omega) hh.2.1];unfold aqu axI awy aDG;dsimp only;rw[aYT hk ⟨by omega,by omega⟩,aYT hk ⟨by omega,by omega⟩]
 by_cases hn:k.1<0
 ·rw[Ú (by simpa[ilt] using hn),if_pos hn];rfl
 ·rw[Õ (by simpa[ilt] using hn),if_neg hn];rfl
theorem aYP {r:Int×Int} (h:azd r=true):aqw r=some (r.1 / r.2):=by
 have:=(aeU r).1 h;have e:=aMy (n:=r.1) (d:=r.2) (by omega) (by omega);unfold alI avN at e;unfold aqw axK aFs aDE;rw[e];rfl
theorem a0V {r:Int×Int} (h:azd r=true):awz r=some (ayV r):=by
 have hr:=(aeU r).1 h;unfold awz aDI aSm aRy
 have z:Ă r.2 0=false:=by simp[Ă]; omega
 have t:=Int.mul_tdiv_add_tmod r.1 r.2
 have b1 : -4000000000≤Int.tdiv r.1 r.2∧Int.tdiv r.1 r.2≤4000000000:=by
  have:=Int.natAbs_tdiv_le_natAbs r.1 r.2;omega
 have h5 : -r.2<Int.tmod r.1 r.2∧Int.tmod r.1 r.2<r.2:=by
  have h6:=Int.natAbs_tmod r.1 r.2;have h7:=Nat.mod_lt r.1.natAbs (show 0<r.2.natAbs by omega);omega
 rw[Õ z,Ø (by omega) (by omega),Õ z,Ĥ];unfold ayV
 by_cases hp:0<Int.tmod r.1 r.2
 ·rw[if_pos (by simpa[igt] using hp),Ø (by omega) (by omega),À];congr 1
  have : -r.1 / r.2 = -(Int.tdiv r.1 r.2)-1:=by
   refine(Int.ediv_eq_iff_of_pos (by omega)).2 ⟨?_,?_⟩
   ·rw[Int.sub_mul,Int.neg_mul,Int.mul_comm (Int.tdiv r.1 r.2)]; omega
   ·rw[Int.sub_mul,Int.neg_mul,Int.mul_comm (Int.tdiv r.1 r.2)]; omega
  omega
 ·rw[if_neg (by simpa[igt] using hp),À];congr 1
  have : -r.1 / r.2 = -(Int.tdiv r.1 r.2):=by
   refine(Int.ediv_eq_iff_of_pos (by omega)).2 ⟨?_,?_⟩
   ·rw[Int.neg_mul,Int.mul_comm (Int.tdiv r.1 r.2)]; omega
   ·rw[Int.neg_mul,Int.mul_comm (Int.tdiv r.1 r.2)]; omega
  omega
end Go.Proofs.ZzM
end
noncomputable section
namespace Go.Proofs.ZzM
open Go Go.Am
structure a2y (b:â) (c:Cmp):Prop where
 ok:aSV b c
 ids:b.2.1.Pairwise fun a b=>a.1<b.1
 pile:∀x∈c.2.2.1++c.2.2.2.1,∃g,ū b x=some g
theorem ę.cmpIn {b:â} (h:ę b) {c:Cmp} (hc:c∈b.2.2.2.2.1):a2y b c:=⟨h.cmp hc,h.ids,fun x hx=>by obtain⟨⟨g,hg,_⟩,_⟩:=h.pile hc hx; exact⟨g,hg⟩⟩
theorem aSV.ne {b:â} {c:Cmp} (h:aSV b c):∀x∈c.2.2.1++c.2.2.2.1,x≠0:=by
 intro x hx;have hn:=(Ο c).1 h.nums;have h1:=((atV _).1 hn.2.2.2.2.2.1).1;have h2:=((atV _).1 hn.2.2.2.2.2.2).1;rcases List.mem_append.1 hx with hx|hx
 ·have:=h1 x hx; omega
 ·have:=h2 x hx; omega
theorem aQG {b:â} (hs:Ż b) (hi:b.2.1.Pairwise fun a b=>a.1<b.1) {p q:List Int} (hx:∀x∈p,x≠0∧∃g,ū b x=some g):alB b (aAz p q)=some (atS (ady b) (ë p q)):=by
 have h1:=hs.gauges;unfold alB axx
 cases hl:ë p q with
 |nil =>
  have:aAz p q=0:=by unfold aAz; rw[hl]; rfl
  rw[this];rfl
 |cons x t =>
  have e:aAz p q=x:=by unfold aAz; rw[hl]; rfl
  have hm:x∈p:=(aeL.1 (show x∈ë p q by rw[hl]; simp)).1;obtain⟨h0,g,hg⟩:=hx x hm;rw[e,Õ (by simpa[ieq] using h0),aB5 (by omega),À];rcases aqn (b:=b) (id:=x) with⟨j,g',h2,h3,h4⟩|⟨h2,h3⟩
  ·rw[h2]
   try dsimp only
   rw[Ë h3];unfold atS;dsimp only;rw[ap9 hi,h4]
  ·rw[h3] at hg; cases hg
theorem aVU {b:â} (hs:Ż b) {c:Cmp} (h:a2y b c):am1 b c=some (Ń b c):=by
 have hn:=(Ο c).1 h.ok.nums;have ha:=ķ hn.2.2.2.2.2.1;have hb:=ķ hn.2.2.2.2.2.2;have hA:∀x∈c.2.2.1,x≠0∧∃g,ū b x=some g:=fun x hx=>⟨h.ok.ne x (by simp[hx]),h.pile x (by simp[hx])⟩;have hB:∀x∈c.2.2.2.1,x≠0∧∃g,ū b x=some g:=fun x hx=>⟨h.ok.ne x (by simp[hx]),h.pile x (by simp[hx])⟩;unfold am1 asR;rw[ay4 (by omega) (by omega),À,aQG hs h.ids hA,À,ay4 (by omega) (by omega),À,aQG hs h.ids hB,À,a2p h.ok.r1 h.ok.r2,À]
 try dsimp only
 rw[aYS (heat:=c.2.2.2.2.2.2) (aCb h.ok.r1 h.ok.r2) hn.2.2.2.2.1,À];rfl
theorem aYW {b:â} {c:Cmp} (hA:c.2.2.1.length≤1000) (hB:c.2.2.2.1.length≤1000) (h1:0≤b.1.1) (h2:b.1.1≤1000000) (h3:0≤b.1.2) (h4:b.1.2≤1000000):aqs b c=some (aey b c):=by
 unfold aqs axE aey
 have e:∀n:Nat,aGd 0 ((n:Int)-1)=((n-1:Nat):Int):=by
  intro n;unfold aGd
  split<;>omega
 have bd:∀(n:Nat) (x:Int),n≤1000→0≤x→x≤1000000→0≤((n-1:Nat):Int)*x∧((n-1:Nat):Int)*x≤1000000000:=by
  intro n x hn h0 hx;refine⟨Int.mul_nonneg (by omega) h0,?_⟩;have:=Int.mul_le_mul (show((n-1:Nat):Int)≤1000 by omega) hx h0 (by omega);omega
 have b1:=bd _ _ hA h1 h2;have b2:=bd _ _ hA h3 h4;have b3:=bd _ _ hB h1 h2;have b4:=bd _ _ hB h3 h4;simp only[ç];rw[Ø (by omega) (by omega),Ø (by omega) (by omega)];simp only[e];rw[Ø (by omega) (by omega),Ø (by omega) (by omega),Ø (by omega) (by omega),Ø (by omega) (by omega),Ø (by omega) (by omega),Ø (by omega) (by omega)]
theorem a0Y {b:â} (hs:Ż b) (hf:0≤b.1.1∧b.1.1≤b.1.2∧b.1.2≤1000000) {c:Cmp} (h:a2y b c):alC b c=some (Ξ b c):=by
 have hn:=(Ο c).1 h.ok.nums;have ha:=ķ hn.2.2.2.2.2.1;have hb:=ķ hn.2.2.2.2.2.2;obtain⟨q1,q2,b1,b2,b3⟩:=an1 hf h.ok;have c1:=aqE q1;have c2:=amX q2;have fb:=amZ (b:=b) (c:=c) (by omega) (by omega) (by omega) (by omega) (by omega) (by omega);have hd:=hn.2.2.1;unfold alC aC4 Ξ;rw[aVU hs h,À,aYW (by omega) (by omega) (by omega) (by omega) (by omega) (by omega),À,aYP q2.rat,a0V q1.rat];simp only[À];rw[Ø (by omega) (by omega),Ø (by omega) (by omega),Ø (by omega) (by omega),Ø (by omega) (by omega),Ø (by omega) (by omega),Ø (by omega) (by omega)]
end Go.Proofs.ZzM
end
noncomputable section
namespace Go.Proofs.ZzM
open Go Go.Am
section
variable {b:â}
theorem a0Z (h:ę b) {id:Int} {g:î} (hg:ū b id=some g) {f t:Int} (hf:0≤f∧f≤100000) (ht:t≤100000):alD b id f t=some (adU b g f t):=by
 have hG:=h.nG;have hU:=h.nU;have hL:=h.nL;obtain⟨hgm,hid⟩:=ahk hg;unfold alD aDe;rw[aB5 (by omega),À];rcases aqn (b:=b) (id:=id) with⟨j,g',h2,h3,h4⟩|⟨h2,h3⟩
 ·rw[h2]
  have:g'=g:=by rw[hg] at h4; exact(Option.some.inj h4).symm
  subst this
  try dsimp only
  rw[Ë h3];refine ł (fun x:Int×Int=>f≤x.2∧(x.2≤t∨x.2=f)∧x.1=adU b g' f x.2) (fun x=>(t-x.2).toNat) ?_ ⟨Int.le_refl _,.inr rfl,(apt g' (Int.le_refl _)).symm⟩;rintro⟨s,d⟩ ⟨hfd,hdt,hs⟩;simp only at hfd hdt hs;subst hs
  by_cases hd:d<t
  ·refine .inr ⟨(adU b g' f (d+1),d+1),⟨by simp only; omega,.inl (by simp only; omega),rfl⟩,by simp only; omega,fun kn=>?_⟩;have e:=aE4 h g' hfd;have lb:=afd h hgm (f:=f) (t:=d) hf.1;have lb2:=afd h hgm (f:=f) (t:=d+1) hf.1;unfold ajx;rw[Ú (by simpa[ilt] using hd),aUt (b:=((b.1.1,b.1.2),b.2.1,b.2.2.1,b.2.2.2.1,b.2.2.2.2.1,b.2.2.2.2.2)) (by simp only; omega),À];have e1:af6 ((b.1.1,b.1.2),b.2.1,b.2.2.1,b.2.2.2.1,b.2.2.2.2.1,b.2.2.2.2.2) id d=af6 b id d:=rfl;rw[e1];unfold aSt at e;rw[hid] at e
   cases ha:af6 b id d with
   |some l =>
    rw[ha] at e;simp only at e;rw[Ú rfl]
    try dsimp only
    rw[←e,Ø (by omega) (by omega),Ø (by omega) (by omega)]
   |none =>
    rw[ha] at e;simp only at e;rw[Õ rfl,a0X (b:=((b.1.1,b.1.2),b.2.1,b.2.2.1,b.2.2.2.1,b.2.2.2.2.1,b.2.2.2.2.2)) (by simp only; omega),À];have e2:aAt ((b.1.1,b.1.2),b.2.1,b.2.2.1,b.2.2.2.1,b.2.2.2.2.1,b.2.2.2.2.2) id d=aAt b id d:=rfl;rw[e2]
    cases hu:aAt b id d with
    |true =>
     rw[hu,if_pos rfl] at e;rw[Ú rfl]
     try dsimp only
     rw[←e,Ø (by omega) (by omega),Ø (by omega) (by omega)]
    |false =>
     rw[hu,if_neg (by simp)] at e;rw[Õ rfl,Ø (by omega) (by omega),e,Int.add_zero]
  ·refine .inl fun kn=>?_;unfold ajx;rw[Õ (by simpa[ilt] using hd)]
   have:adU b g' f d=adU b g' f t:=by
    rcases Int.lt_or_le t f with hlt|hge
    ·have:d=f:=by omega
     rw[this,apt g' (Int.le_refl _),apt g' (by omega)]
    ·have:d=t:=by omega
     rw[this]
   rw[this]
 ·rw[h3] at hg; cases hg
end
end Go.Proofs.ZzM
end
noncomputable section
namespace Go.Proofs.ZzM
open Go Go.Am
theorem aw4 {b:â} (h:Pre b) (n:Int×Int):Œ b n=some (amT b n.1 n.2):=by
 have hl:=axp h.size;unfold Œ axC;rw[aw3 h,À];refine Eq.trans (adl (Î b) (fun m=>decide (n.1=m.1)&&decide (n.2=m.2)) (fun z=>some (z+1)) (some 0) (fun i a hi ha kn=>?_) (fun kn=>?_)) ?_
 ·try dsimp only
  unfold ahY;rw[Ö hi,Ë ha,Ñ hi (by omega),Ñ hi (by omega),Ĥ,Bool.and_true]
  have e:(Ă a.1 n.1&&Ă a.2 n.2)=(decide (n.1=a.1)&&decide (n.2=a.2)):=by
   rw[Bool.eq_iff_iff];simp only[Ă,Bool.and_eq_true,decide_eq_true_eq];exact and_congr eq_comm eq_comm
  rw[e]
 ·try dsimp only
  unfold ahY;rw[ã]
 ·unfold amT adA
  cases List.findIdx? (fun m=>decide (n.1=m.1)&&decide (n.2=m.2)) (Î b)<;>rfl
theorem aXy {b:â} (h:Pre b) (p q:List Int) (d:Int):amT b (aAz p q) d=atP (Î b) (ë p q) d:=by
 unfold amT atP aAz
 cases hl:ë p q with
 |nil =>
  simp only[List.head?_nil,Option.getD_none]
  have:adA (Î b) 0 d=none:=by
   unfold adA;rw[List.findIdx?_eq_none_iff];intro n hn;obtain⟨g,hg,hn⟩:=List.mem_flatMap.1 hn;obtain⟨e,_,rfl⟩:=List.mem_map.1 hn;have:=((alz g).1 (h.gauge g hg)).2.2.2.1
   have:¬((0:Int)=g.1):=by omega
   simp[this]
  rw[this]
 |cons x t=>rfl
section
variable {b:â}
theorem aZL {k:Nat} (hk:k<(Î b).length):∃(i:Nat) (g:î) (j:Nat) (d:Int),b.2.1[i]?=some g∧(á b g)[j]?=some d∧k=off b i+j∧(Î b)[k]?=some (g.1,d):=by
 obtain⟨i,g,j,h1,h2,h3⟩:=aTC (b:=b) b.2.1.length (Nat.le_refl _) k (by rw[aWP]; exact hk);have hd:(á b g)[j]?=some (á b g)[j]:=List.getElem?_eq_getElem h2;exact⟨i,g,j,_,h1,hd,h3,by rw[h3]; exact aBJ h1 hd⟩
theorem aUJ (h:ę b) {i j:Nat} {g g':î} (hi:b.2.1[i]?=some g) (hj:b.2.1[j]?=some g') (he:g.1=g'.1):i=j∧g=g':=by
 obtain⟨h1,rfl⟩:=List.getElem?_eq_some_iff.1 hi;obtain⟨h2,rfl⟩:=List.getElem?_eq_some_iff.1 hj;have hp:=List.pairwise_iff_getElem.1 h.ids;rcases Nat.lt_trichotomy i j with hlt|rfl|hlt
 ·have:=hp i j h1 h2 hlt; omega
 ·exact⟨rfl,rfl⟩
 ·have:=hp j i h2 h1 hlt; omega
def aiW (b:â) (i:Nat) (g:î) (k:Nat):List Lk :=
 if k≤off b i then[] else[(0,(off b i:Int)+1,g.2.2.1+g.2.2.2.1.2),((off b i:Int)+1,0,-(g.2.2.1+g.2.2.2.1.1))] ++
  (List.range (min (k-off b i-1) ((á b g).length-1))).flatMap fun(k:Nat)=>[((off b i:Int)+1+k,(off b i:Int)+1+k+1,0),((off b i:Int)+1+k+1,(off b i:Int)+1+k,adU b g ((á b g)[k]?.getD 0) ((á b g)[k+1]?.getD 0))]
def adI (b:â) (i:Nat) (g:î) (k:Nat):List (Int×Int) :=
 if k≤off b i then[] else[(1,(i:Int)),(1,(i:Int))]++(List.range (min (k-off b i-1) ((á b g).length-1))).flatMap fun _=>[(2,(i:Int)),(2,(i:Int))]
theorem aVh (h:ę b) {i:Nat} {g:î} (hg:b.2.1[i]?=some g):aiW b i g (Î b).length=û b g∧adI b i g (Î b).length=ø b i g:=by
 have ho:=aWO h hg;have hp:=List.length_pos_of_mem (aeZ (b:=b) g)
 have e:min ((Î b).length-off b i-1) ((á b g).length-1)=(á b g).length-1:=by omega
 unfold aiW adI û ø;rw[if_neg (by omega),if_neg (by omega),e,aUj h hg];exact⟨rfl,rfl⟩
theorem aPZ {i:Nat} {g:î} {k:Nat} (hk:k<off b i∨off b i+(á b g).length≤k) (hp:0<(á b g).length):aiW b i g (k+1)=aiW b i g k∧adI b i g (k+1)=adI b i g k:=by
 unfold aiW adI;rcases hk with hk|hk
 ·rw[if_pos (by omega),if_pos (by omega),if_pos (by omega),if_pos (by omega)];exact⟨rfl,rfl⟩
 ·have e:min (k+1-off b i-1) ((á b g).length-1)=min (k-off b i-1) ((á b g).length-1):=by omega
  rw[if_neg (by omega),if_neg (by omega),if_neg (by omega),if_neg (by omega),e];exact⟨rfl,rfl⟩
theorem aP0 {i:Nat} {g:î}:aiW b i g (off b i+1)=aiW b i g (off b i)++[(0,(off b i:Int)+1,g.2.2.1+g.2.2.2.1.2),((off b i:Int)+1,0,-(g.2.2.1+g.2.2.2.1.1))]∧adI b i g (off b i+1)=adI b i g (off b i)++[(1,(i:Int)),(1,(i:Int))]:=by
 unfold aiW adI;rw[if_neg (by omega),if_pos (Nat.le_refl _),if_neg (by omega),if_pos (Nat.le_refl _),show off b i+1-off b i-1=0 by omega,Nat.zero_min];exact⟨by simp,by simp⟩
theorem aSk {i:Nat} {g:î} {j:Nat} (hj:j+1<(á b g).length):aiW b i g (off b i+(j+1)+1)=aiW b i g (off b i+(j+1))++[((off b i:Int)+1+j,(off b i:Int)+1+j+1,0),((off b i:Int)+1+j+1,(off b i:Int)+1+j,adU b g ((á b g)[j]?.getD 0) ((á b g)[j+1]?.getD 0))] ∧
 adI b i g (off b i+(j+1)+1)=adI b i g (off b i+(j+1))++[(2,(i:Int)),(2,(i:Int))]:=by
 unfold aiW adI;rw[if_neg (by omega),if_neg (by omega),if_neg (by omega),if_neg (by omega),show min (off b i+(j+1)+1-off b i-1) ((á b g).length-1)=j+1 by omega,show min (off b i+(j+1)-off b i-1) ((á b g).length-1)=j by omega,akO,akO];exact⟨by simp,by simp⟩
theorem aVg (i:Nat) (g:î) (k:Nat) (hd:(á b g).length≤59):(aiW b i g k).length≤120∧(adI b i g k).length≤120:=by
 unfold aiW adI;constructor
 ·split
  ·simp
  ·rw[List.length_append,ų _ _ (fun _=>rfl)];simp only[List.length_cons,List.length_nil]; omega
 ·split
  ·simp
  ·rw[List.length_append,ų _ _ (fun _=>rfl)];simp only[List.length_cons,List.length_nil]; omega
set_option maxHeartbeats 1000000 in
theorem aWf (h:ę b) {i:Nat} {g:î} (hg:b.2.1[i]?=some g) {L:List Lk} {S:List (Int×Int)} (hL:L.length≤100000) (hS:S.length≤100000) (K:List Lk×List (Int×Int)→Option (List Lk×List (Int×Int))) :
 Ì (fun(v21:Int×List Lk×List (Int×Int)) kk25=>aiD (Î b) (i:Int) b.1.1 b.1.2 b.2.1 b.2.2.1 b.2.2.2.1 b.2.2.2.2.1 b.2.2.2.2.2 g.1 g.2.1 g.2.2.1 g.2.2.2.1.1 g.2.2.2.1.2 v21.1 v21.2.1 v21.2.2 (fun u22 u23 u24=>kk25 (u22,u23,u24)) K) ((0:Int),L,S)=K (L++û b g,S++ø b i g):=by
 have hN:=h.nodes;have hgm:=List.mem_of_getElem? hg;have hdl:=awO h hgm;have hp:=List.length_pos_of_mem (aeZ (b:=b) g);have hr:=h.gaugeR hgm;have r1:=hr.2.2.2.2.2.1;have r2:=hr.2.2.2.2.2.2.1;obtain⟨tl,htl⟩:=aFC h hgm;refine ñ (Î b) (fun k=>(L++aiW b i g k,S++adI b i g k)) _ (by simp[aiW,adI]) (fun k n hk hn kn=>?_) (fun kn=>?_)
 ·try dsimp only
  unfold aiD;have gl:=aVg (b:=b) i g k hdl;rw[Ö hk,Ë hn];obtain⟨i',g',j,d,h1,h2,h3,h4⟩:=aZL hk
  have hnd:n=(g'.1,d):=by rw[hn] at h4; exact Option.some.inj h4
  by_cases hsame:n.1=g.1
  ·obtain⟨hi',hgg⟩:=aUJ h h1 hg (by rw[hnd] at hsame; exact hsame);subst hgg;have hin:i'=i:=hi';rw[hin] at h3 h1;rw[Õ (by simp[ine,hsame]),Ë hn]
   have hdn:n.2=d:=by rw[hnd]
   rw[hdn]
   cases j with
   |zero =>
    have hdd:d=g'.2.1:=by rw[htl] at h2; simpa using h2.symm
    have hk0:k=off b i:=by omega
    rw[Ú (by simp[ieq,hdd])];obtain⟨e1,e2⟩:=aP0 (b:=b) (i:=i) (g:=g');rw[←hk0] at e1 e2;rw[Ñ hk (by omega),Ø (by omega) (by omega),Ñ hk (by omega),Ø (by omega) (by omega),Ø (by omega) (by omega),Ù (by simp only[List.length_append,List.length_cons,List.length_nil]; omega),Am.iff_true,Ù (by simp only[List.length_append,List.length_cons,List.length_nil]; omega),Am.iff_true,Ñ hk (by omega),e1,e2]
    have e3:0-g'.2.2.1-g'.2.2.2.1.1 = -(g'.2.2.1+g'.2.2.2.1.1):=by omega
    rw[e3];simp only[List.append_assoc]
   |succ j =>
    have hjl:=(List.getElem?_eq_some_iff.1 h2).1
    have hdd:d≠g'.2.1:=by
     have hp1:=ana b g';rw[htl] at h2 hp1;rw[List.getElem?_cons_succ] at h2;have:=(List.pairwise_cons.1 hp1).1 d (List.mem_of_getElem? h2);omega
    rw[Õ (by simpa[ieq] using hdd)]
    have hprev:(á b g')[j]?=some ((á b g')[j]?.getD 0):=by rw[List.getElem?_eq_getElem (by omega)]; rfl
    have hd':d=(á b g')[j+1]?.getD 0:=by rw[h2]; rfl
    have hpn:=aBJ h1 hprev;have d1:=h.day hgm (List.mem_of_getElem? hprev);have d2:=h.day hgm (List.mem_of_getElem? h2);have hk0:k=off b i+(j+1):=h3;obtain⟨e1,e2⟩:=aSk (b:=b) (i:=i) (g:=g') hjl;rw[←hk0] at e1 e2
    have hkm:((k:Int)-1)=((off b i+j:Nat):Int):=by omega
    have lb:=afd h hgm (t:=d) d1.2.1;rw[aFG (by omega) (by omega),hkm,Ë hpn,Ë hn,hdn]
    try dsimp only
    rw[show alD ((b.1.1,b.1.2),b.2.1,b.2.2.1,b.2.2.2.1,b.2.2.2.2.1,b.2.2.2.2.2) g'.1 ((á b g')[j]?.getD 0) d=alD b g'.1 ((á b g')[j]?.getD 0) d from rfl,a0Z h (amV h.ids hgm) ⟨by omega,by omega⟩ (by omega),À,Ñ hk (by omega),Ñ hk (by omega),Ù (by simp only[List.length_append,List.length_cons,List.length_nil]; omega),Am.iff_true,Ù (by simp only[List.length_append,List.length_cons,List.length_nil]; omega),Am.iff_true,Ñ hk (by omega),e1,e2,←hd']
    have e3:(off b i:Int)+1+(j:Int)=(k:Int):=by omega
    rw[e3];simp only[List.append_assoc]
  ·rw[Ú (by simp[ine,hsame]),Ñ hk (by omega)]
   have hout:k<off b i∨off b i+(á b g).length≤k:=by
    rcases Nat.lt_or_ge k (off b i) with hlt|hge
    ·exact .inl hlt
    ·rcases Nat.lt_or_ge k (off b i+(á b g).length) with hlt2|hge2
     ·have:=aBJ hg (k:=k-off b i) (List.getElem?_eq_getElem (by omega));rw[show off b i+(k-off b i)=k by omega,hn] at this;exact absurd (by rw[Option.some.inj this]) hsame
     ·exact .inr hge2
   obtain⟨e1,e2⟩:=aPZ hout hp;rw[e1,e2]
 ·try dsimp only
  unfold aiD;rw[ã];obtain⟨e1,e2⟩:=aVh h hg;rw[e1,e2]
end
end Go.Proofs.ZzM
end