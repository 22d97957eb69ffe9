/- lemmas -/
import Derived.Test.YtmadligicacpkaaGreatPlA
import Derived.Test.YtmadligicacpkaaGreatMdTA
set_option linter.all false
set_option linter.unusedSectionVars false
set_option linter.unusedVariables false
set_option linter.unusedSimpArgs false
noncomputable section
namespace Go.Proofs.ZzM
open Go Go.Am
section
variable {L:List Lk} {N:Nat}
def Wl.app {u v:Int} {vs:List Int} {d:Int} (h1:Wl L (fun x=>x=u) vs v d) {ws:List Int} {w e:Int} (h2:Wl L (fun x=>x=v) ws w e):∃xs,Wl L (fun x=>x=u) xs w (d+e):=by
 induction h2 with
 |nil h=>subst h; exact⟨vs,by rw[gh]; exact h1⟩
 |step hw hx ih =>
  obtain⟨xs,hi⟩:=ih;have:=Wl.step hi hx;rw[Int.add_assoc] at this;exact⟨_,this⟩
def dst (L:List Lk) (N:Nat) (s t:Int):Int:=gv (jJ L N s) t
def ajW (h:ĺ L N) (ht:HZ L N) (ho:ě L N=true) {s t:Int} (hs:0≤s∧s<N) (hv:0≤t∧t<N):dst L N s t≤9007199254740992:=by
 have h2:=h.n60;obtain⟨p,hp⟩:=(Ŏ h.links (by omega)).1 ho;obtain⟨vs,d,hw,hd⟩:=ht.from' s hs.1 hs.2;obtain⟨ws,e,hx,he⟩:=ht.to t hv.1 hv.2;obtain⟨xs,hy⟩:=Wl.app hw hx;have:=(jp h.links (by omega) hp hs).low t xs _ (aac.2 hy);unfold dst;omega
def af5 (h:ĺ L N) (ht:HZ L N) (ho:ě L N=true) {s t:Int} (hs:0≤s∧s<N) (hv:0≤t∧t<N):dst L N s t≠ĭ:=by
 have:=ajW h ht ho hs hv;unfold ĭ;omega
def ajV (h:ĺ L N) (ht:HZ L N) (ho:ě L N=true) {s:Int} (hs:0≤s∧s<N):Pot L (dst L N s):=by
 have h2:=h.n60;obtain⟨p,hp⟩:=(Ŏ h.links (by omega)).1 ho;intro u v m hl;have hr:=h.inr _ hl;exact(jp h.links (by omega) hp hs).pot h.inr hl (af5 h ht ho hs hr.1)
def af4 (h:ĺ L N) (ho:ě L N=true) {s:Int} (hs:0≤s∧s<N):dst L N s s=0:=aeP h ho hs.1 hs.2
def YA (h:ĺ L N) (ht:HZ L N) (ho:ě L N=true) {s t:Int} (hs:0≤s∧s<N) (hv:0≤t∧t<N) {p:Int→Int} (hp:Pot L p):p t-p s≤dst L N s t:=by
 have h2:=h.n60;obtain⟨vs,hw⟩:=(jp h.links (by omega) hp hs).att t hv.1 hv.2 (af5 h ht ho hs hv);obtain⟨u,hu,hx⟩:=(aac.1 hw).pot hp;subst hu;exact hx
def aof (h:ĺ L N) (ht:HZ L N) (ho:ě L N=true) {x y:Int} (hx:0≤x∧x<N) (hy:0≤y∧y<N) {t:Int} (h1 : -(dst L N x y)≤t) (h2:t≤dst L N y x):∃p,Pot L p∧p x-p y=t:=by
 refine⟨fun v=>min (dst L N y v) (dst L N x v+t),fun u v m hl=>?_,?_⟩
 ·have a1:=ajV h ht ho hy u v m hl;have a2:=ajV h ht ho hx u v m hl;show min _ _≤min _ _+m;omega
 ·have e1:=af4 h ho hx;have e2:=af4 h ho hy;show min (dst L N y x) (dst L N x x+t)-min (dst L N y y) (dst L N x y+t)=t;omega
def acf (h:ĺ L N) (ht:HZ L N) (ho:ě L N=true) {x y:Int} (hx:0≤x∧x<N) (hy:0≤y∧y<N) : -(dst L N x y)≤dst L N y x:=by
 have h2:=h.n60;obtain⟨p,hp⟩:=(Ŏ h.links (by omega)).1 ho;have a1:=YA h ht ho hx hy hp;have a2:=YA h ht ho hy hx hp;omega
def Vn (h:ĺ L N) (ht:HZ L N) (ho:ě L N=true) {s t:Int} (hs:0≤s∧s<N) (hv:0≤t∧t<N) : -9007199254740992≤dst L N s t∧dst L N s t≤9007199254740992:=by
 have a1:=ajW h ht ho hs hv;have a2:=ajW h ht ho hv hs;have a3:=acf h ht ho hv hs;omega
def AY (h:ĺ L N) (ht:HZ L N) {s t:Int} (hs:0≤s∧s<N) (hv:0≤t∧t<N):ip L N s t=if ě L N then(dst L N s t,0) else(0,9):=by
 unfold ip
 by_cases ho:ě L N=true
 ·have hne:=af5 h ht ho hs hv;unfold dst at hne ⊢;rw[if_neg (by simp[ho]),if_neg hne,if_pos ho]
 ·rw[if_pos (by simpa using ho),if_neg ho]
end
section
variable {b:ß} {c:Cmp}
def an4 (h':Ď (Ø b c)):GL (Ø b c) (â (Ø b c)):=by
 intro i g hg l hl;rw[Yp];exact cW.2 (.inl (dv.2 ⟨g,cY hg,hl⟩))
def ij (h':Ď (Ø b c)):HZ (â (Ø b c)) ((Ì (Ø b c)).length+1):=h'.tiedL (an4 h')
def Ş (h':Ď (Ø b c)):ĺ (â (Ø b c)) ((Ì (Ø b c)).length+1) :=
 h'.sys.sub (fun l hl=>List.mem_of_mem_take hl) (by unfold â; rw[List.length_take]; omega)
def lG (h:Ď b) (h':Ď (Ø b c)):ě (â (Ø b c)) ((Ì (Ø b c)).length+1)=ě (á b) ((Ì b).length+1):=by
 have n1:=h.sys.n60;have n2:=(Ş h').n60;rw[dN,Ŏ (Ş h').links (by omega),Ŏ h.sys.links (by omega)];exact(aiK h h').symm
def j5:c∈(Ø b c).2.2.2.2.1:=by simp[Ø]
def xi (h':Ď (Ø b c)):0≤cx (Ø b c) c∧cx (Ø b c) c<((Ì (Ø b c)).length+1:Nat):=(YD h' j5).rng
def xh (h':Ď (Ø b c)):0≤cy (Ø b c) c∧cy (Ø b c) c<((Ì (Ø b c)).length+1:Nat):=(Ri h' j5).rng
def dLo (b:ß) (c:Cmp):Int:=-(dst (â (Ø b c)) ((Ì (Ø b c)).length+1) (cx (Ø b c) c) (cy (Ø b c) c))
def dHi (b:ß) (c:Cmp):Int:=dst (â (Ø b c)) ((Ì (Ø b c)).length+1) (cy (Ø b c) c) (cx (Ø b c) c)
def D8 (h:Ď b) (h':Ď (Ø b (Â c))):û b c=if ě (á b) ((Ì b).length+1) then Kr b (Â c) (dLo b (Â c),dHi b (Â c)) else((0,0),9):=by
 have e:wx b (Â c)=(Ø b (Â c),0):=by
  unfold wx;rw[if_neg (by simp[(ð b).2 h]),if_neg (by simp[(ð _).2 h'])]
 unfold û;rw[e,AY (Ş h') (ij h') (xh h') (xi h'),AY (Ş h') (ij h') (xi h') (xh h'),lG h h']
 by_cases ho:ě (á b) ((Ì b).length+1)=true
 ·rw[if_pos ho,if_pos ho,if_pos ho];rfl
 ·rw[if_neg ho,if_neg ho,if_neg ho];rfl
def o9 (hp:(û b c).2=0):Ď b∧Ď (Ø b (Â c)):=by
 have hw:(wx b (Â c)).2=0:=by
  unfold û at hp
  by_cases hw:(wx b (Â c)).2=0
  ·exact hw
  ·rw[if_pos hw] at hp; exact hp
 unfold wx at hw
 by_cases hb:ä b=0
 ·rw[if_neg (by simp[hb])] at hw
  by_cases hm:ä (Ø b (Â c))=0
  ·exact⟨(ð b).1 hb,(ð _).1 hm⟩
  ·rw[if_pos hm] at hw; exact absurd hw hm
 ·rw[if_pos hb] at hw; exact absurd hw hb
def ac6 {s:Int×Int} (h:(Kr b c s).2=0):TW b c≤sI b c∧Kr b c s=((s.1+TW b c,s.2+sI b c),0):=by
 unfold Kr at h ⊢
 split at h
 ·simp at h
 ·rename_i hl;rw[if_neg hl];exact⟨by omega,rfl⟩
end
structure anw (B:ß):Prop where
 good:Ď B
 op:ě (á B) ((Ì B).length+1)=true
 num:∀g∈B.2.1,I64 g.2.2.2.2.1.1
theorem kU {b:ß} (hI:In b) {ns:List (Int×Int)} (e:(Ą b ns).2=0):anw (Ą b ns).1∧(Ą b ns).1=(Ő b ns).1∧(Ő b ns).2=0∧Ď b:=by
 unfold Ą at e ⊢
 by_cases hc:ä b=0
 ·rw[if_neg (by simp[hc])] at e ⊢
  by_cases hr:(Ő b ns).2=0
  ·rw[if_neg (by simp[hr])] at e ⊢
   cases ho:ě (á (Ő b ns).1) ((Ì (Ő b ns).1).length+1) with
   |true =>
    rw[if_pos rfl];exact⟨⟨Ej ((ð b).1 hc) hr,ho,by rw[uM hr]; exact hI.num⟩,rfl,hr,(ð b).1 hc⟩
   |false=>rw[ho] at e; simp at e
  ·rw[if_pos hr] at e; exact absurd e hr
 ·rw[if_pos hc] at e; exact absurd e hc
theorem Κ (B:ß) (n:Int×Int):0≤vX B n.1 n.2∧vX B n.1 n.2<((Ì B).length+1:Nat):=by
 unfold vX
 cases h:iB (Ì B) n.1 n.2 with
 |none=>dsimp only; omega
 |some j=>have:=(kv h).1; dsimp only; omega
theorem RG {B:ß} (h:Ď B) (hn:∀g∈B.2.1,I64 g.2.2.2.2.1.1) (s:Sys) (n:Int×Int):ς (B,s) n=some (vX B n.1 n.2):=by
 unfold ς Dv;rw[show ũ (B,s).1 n=ũ B n from rfl,RT (h.inn hn),À,D9 h]
 split
 ·rename_i e; rw[e]
 ·rfl
theorem acE {B:ß} {L:List Lk} {N:Nat} (h:ĺ L N) {to from':Int} (h1:0≤to∧to<N) (h2:0≤from'∧from'<N):ĉ (B,(N:Int),L) to from'=some (ip L N from' to).1:=by
 unfold ĉ sf;rw[show(B,(N:Int),L).2=((N:Int),L) from rfl,NF h h2 h1,À]
def RW (B:ß):Sys:=(((Ì B).length:Int)+1,á B)
def ald (B:ß) (s t:Int):Int:=dst (á B) ((Ì B).length+1) s t
def ivR (B:ß) (n:Int×Int):Int×Int:=(-(ald B (vX B n.1 n.2) 0),ald B 0 (vX B n.1 n.2))
theorem Ib (B:ß):RW B=((((Ì B).length+1:Nat):Int),á B):=by unfold RW; push_cast; rfl
theorem iz (B:ß):0≤(0:Int)∧(0:Int)<((Ì B).length+1:Nat):=by omega
section
variable {B:ß} (h:anw B)
include h
theorem J3 {s t:Int} (hs:0≤s∧s<((Ì B).length+1:Nat)) (ht:0≤t∧t<((Ì B).length+1:Nat)) : -9007199254740992≤ald B s t∧ald B s t≤9007199254740992 :=
 Vn h.good.sys h.good.tied h.op hs ht
theorem AU {to from':Int} (h1:0≤to∧to<((Ì B).length+1:Nat)) (h2:0≤from'∧from'<((Ì B).length+1:Nat)):ĉ (B,RW B) to from'=some (ald B from' to):=by
 rw[Ib,acE h.good.sys h1 h2,AY h.good.sys h.good.tied h2 h1,if_pos h.op];rfl
theorem U5 (n:Int×Int):π (B,RW B) n=some (-(ald B (vX B n.1 n.2) 0)):=by
 unfold π se;have hb:=J3 h (Κ B n) (iz B);rw[RG h.good h.num,À,AU h (iz B) (Κ B n),À,Ó (by omega) (by omega)];congr 1;omega
theorem Hm (n:Int×Int):il (B,RW B) n=some (ald B 0 (vX B n.1 n.2)):=by
 unfold il mz;rw[RG h.good h.num,À,AU h (Κ B n) (iz B),À]
theorem vU (n:Int×Int):ŷ (B,RW B) n=some (ivR B n):=by
 unfold ŷ mw;rw[U5 h,À,Hm h,À];rfl
end
def H5 (b:ß) (n:Int×Int):(Int×Int)×Int:=if (Ą b [n]).2≠0 then((0,0),(Ą b [n]).2) else(ivR (Ą b [n]).1 n,0)
theorem RS {b:ß} (hI:In b) (n:Int×Int):nS b n=some (H5 b n):=by
 unfold nS yN H5;refine(uQ hI (ns:=[n]) (by simp) (fun e=>some (((0,0):Int×Int),e)) (fun e he=>by rw[ħ (by simp[ine,he])]) (fun z he=>by rw[ħ (by simp[ine,he])]) (fun _ _ _=>rfl)).trans ?_
 split
 ·rfl
 ·rename_i e;have hr:=(kU hI (by simpa using e)).1;dsimp only;rw[zx,show((((Ì (Ą b [n]).1).length:Int)+1,á (Ą b [n]).1):Sys)=RW (Ą b [n]).1 from rfl,vU hr,À]
theorem ahR {ρ:Type}:@sm ρ=@Ē ρ:=rfl
theorem al5 {ρ:Type}:@yM ρ=@Ē ρ:=rfl
def btR (B:ß) (m n:Int×Int):Int×Int:=(-(ald B (vX B m.1 m.2) (vX B n.1 n.2)),ald B (vX B n.1 n.2) (vX B m.1 m.2))
def Y6 (b:ß) (m n:Int×Int):(Int×Int)×Int:=if (Ą b [m,n]).2≠0 then((0,0),(Ą b [m,n]).2) else(btR (Ą b [m,n]).1 m n,0)
theorem ah2 {b:ß} (hI:In b) (m n:Int×Int):wh b m n=some (Y6 b m n):=by
 unfold wh DD Y6;rw[ahR];refine(uQ hI (ns:=[m,n]) (by simp) (fun e=>some (((0,0):Int×Int),e)) (fun e he=>by rw[ħ (by simp[ine,he])]) (fun z he=>by rw[ħ (by simp[ine,he])]) (fun _ _ _=>rfl)).trans ?_
 split
 ·rfl
 ·rename_i e;have hr:=(kU hI (by simpa using e)).1;dsimp only;generalize (Ą b [m,n]).1=B at hr ⊢;have hb:=J3 hr (Κ B m) (Κ B n)
  rw[zx,show((((Ì B).length:Int)+1,á B):Sys)=RW B from rfl,RG hr.good hr.num,À,RG hr.good hr.num,À,AU hr (Κ B n) (Κ B m),À,
   Ó (by omega) (by omega),AU hr (Κ B m) (Κ B n),À]
  unfold btR;rw[Int.zero_sub]
def Ļ (s l:Int×Int):Int:=if l.1≤s.1∧s.2≤l.2 then 1 else if s.2<l.1∨l.2<s.1 then 2 else 3
theorem T7 (s l:Int×Int):qp s l=some (Ļ s l):=by
 unfold qp Dt Ļ;simp only[Ĕ,ile,ilt,decide_eq_true_eq]
 by_cases h1:l.1≤s.1<;>by_cases h2:s.2≤l.2<;>by_cases h3:s.2<l.1<;>by_cases h4:l.2<s.1<;>simp[h1,h2,h3,h4]
def ak7 (b:ß) (n l:Int×Int):Int×Int:=if (Ą b [n]).2≠0 then(0,(Ą b [n]).2) else if l.2<l.1 then(0,1) else(Ļ (ivR (Ą b [n]).1 n) l,0)
theorem am6 {b:ß} (hI:In b) (n l:Int×Int):HB b n l=some (ak7 b n l):=by
 unfold HB PM ak7;rw[al5];refine(uQ hI (ns:=[n]) (by simp) (fun e=>some ((0:Int),e)) (fun e he=>by rw[Õ (by simp[ine,he])]) (fun z he=>by rw[Õ (by simp[ine,he])]) (fun _ _ _=>rfl)).trans ?_
 split
 ·rfl
 ·rename_i e;have hr:=(kU hI (by simpa using e)).1;dsimp only
  by_cases hl:l.2<l.1
  ·rw[Õ (by simp[igt,hl]),if_pos hl]
  ·rw[Ò (by simp[igt]; omega),if_neg hl,zx,show((((Ì (Ą b [n]).1).length:Int)+1,á (Ą b [n]).1):Sys)=RW (Ą b [n]).1 from rfl,vU hr,À,T7,À]
def RV (x y:List Int):List Int×List Int×Int:=if !lU x then([],[],1) else if !lU y then([],[],1) else(å x y,å y x,0)
def acS {x y:List Int} (hx:x.length≤100000) (hy:y.length≤100000):uD x y=some (RV x y):=by
 unfold uD JI RV;rw[He (by omega),À]
 cases lU x with
 |false=>rfl
 |true =>
  rw[He (by omega),À]
  cases lU y with
  |false=>rfl
  |true =>
   rw[sF (by omega) (by omega),À,sF (by omega) (by omega),À];rfl
def ab6 (ls:List (List Int)) (i:Nat):(ls.take i).flatten.length≤ls.flatten.length:=by
 conv=>rhs; rw[←List.take_append_drop i ls,fg,cR]
 omega
def pw {ls:List (List Int)} (hl:ls.length≤1000000) (hf:ls.flatten.length≤1000000):ò ls=some ls.flatten:=by
 have hk:∀n:Nat,n≤4000000→∀(f:Int→Option (List Int)),ck (n:Int) f=f n:=fun n h f=>Ó (by omega) (by omega) f
 have second:Ñ (fun(v9:(Val (.pair tI (.slice tI)))) kk12=>õ ls (Þ ls) v9.1 v9.2 (fun u10 u11=>kk12 (u10,u11)) (fun z8=>some z8)) ((0:Int),([]:List Int))=some ls.flatten:=by
  refine ñ ls (fun i=>(ls.take i).flatten) (some ls.flatten) (f:=fun(v9:(Val (.pair tI (.slice tI)))) kk12=>õ ls (Þ ls) v9.1 v9.2 (fun u10 u11=>kk12 (u10,u11)) (fun z8=>some z8)) rfl (fun i x hi hx kn=>?_) (fun kn=>?_)
  ·try dsimp only
   unfold õ;have h1:=ab6 ls (i+1);rw[take_succ hx,List.flatten_append,List.length_append] at h1;simp only[List.flatten_cons,List.flatten_nil,List.append_nil] at h1;rw[Ô hi,Ë hx,Î hi (by omega),take_succ hx,List.flatten_append];have:ê ((List.take i ls).flatten.length+x.length)=true:=Ö (by omega);rw[ħ this];simp
  ·try dsimp only
   unfold õ;rw[à];simp
 unfold ò i7;refine ī (fun x:Int×Int=>∃i:Nat,i≤ls.length∧x=(((ls.take i).flatten.length:Int),(i:Int))) (fun x=>ls.length-x.2.toNat) ?_ ⟨0,by omega,rfl⟩;rintro x ⟨i,hi,rfl⟩;rcases Nat.lt_or_ge i ls.length with h2|h2
 ·refine .inr ⟨(((ls.take (i+1)).flatten.length:Int),(i:Int)+1),⟨i+1,h2,by simp⟩,by simp; omega,fun kn=>?_⟩;obtain⟨x,hx⟩:∃x,ls[i]?=some x:=⟨_,cN h2⟩;have h1:=ab6 ls (i+1);rw[take_succ hx,fg,cR] at h1;simp only[fI,fY,dI] at h1
  try dsimp only
  unfold Ĺ;rw[Ô h2,Ë hx,é]
  have e1:(((List.take i ls).flatten.length:Int)+(x.length:Int))=((List.take i ls).flatten.length+x.length:Nat):=by omega
  rw[e1,hk _ (by omega)]
  have:ilt ((((List.take i ls).flatten.length+x.length:Nat)):Int) 0=false:=by simp[ilt]; omega
  rw[Ò this,Î h2 (by omega),take_succ hx];simp
 ·refine .inl fun kn=>?_
  obtain rfl:i=ls.length:=by omega
  try dsimp only
  unfold Ĺ;rw[à,List.take_length];have e2:ilt ((ls.flatten.length:Nat):Int) 0=false:=decide_eq_false (by omega);dsimp only;rw[Ò e2,Int.sub_zero,hk _ (by omega)];rcases Nat.eq_zero_or_pos ls.flatten.length with h0|h0
  ·have:igt (ls.flatten.length:Int) 0=false:=decide_eq_false (by omega);rw[Ò this];exact second
  ·have:igt (ls.flatten.length:Int) 0=true:=decide_eq_true (by omega);rw[Õ this]
   have:((ilt (0:Int) (ls.flatten.length:Int))&&(ê (Int.toNat (ls.flatten.length:Int))))=true:=by
    rw[di,Ö (by omega),gJ];exact decide_eq_true (by omega)
   rw[ħ this];have:ile 0 (ą (List.replicate (Int.toNat (ls.flatten.length:Int)) (0:Int)))=true:=decide_eq_true (Int.natCast_nonneg _);rw[ħ this];exact second
def onP (day:Int) (ids:List Int):List (Int×Int):=ids.map fun id=>(id,day)
def ail {day:Int} {ls:List (List Int)} (hl:ls.length≤1000000) (hf:ls.flatten.length≤1000000):Hz day ls=some (onP day ls.flatten):=by
 unfold Hz PB;rw[pw hl hf,À];refine ñ ls.flatten (fun i=>onP day (ls.flatten.take i)) _ rfl (fun i x hi hx kn=>?_) (fun kn=>?_)
 ·try dsimp only
  unfold ri;rw[Ô hi,Ë hx,Î hi (by omega),take_succ hx];have:ê (List.length (onP day (ls.flatten.take i))+List.length ([(x,day)]))=true:=Ö (by simp[onP]; omega);rw[ħ this];simp[onP]
 ·try dsimp only
  unfold ri;rw[à,List.take_length]
def alx {l:List Int} (hl:l.length≤100000) (m:Int):Nx l m=some (lU l&&decide ((l.length:Int)≤m)):=by
 unfold Nx Xi;rw[acS hl (by simp),À]
 have e0:lU []=true:=by decide
 unfold RV;rw[e0,é]
 cases lU l<;>rfl
def anH (n:Int):HA n=some (H8 n):=by
 unfold HA PF H8 inP;rw[Ĕ]
 by_cases h:0≤n
 ·rw[if_pos (by simpa[ige] using h)]; simp[h]
 ·rw[if_neg (by simpa[ige] using h)]; simp[h]
def al9 {ρ α:Type} (l:List α) (i:Int) (f:α→Option ρ):ì ((ile (0:Int) i)&&(ilt i (ą l))) (Ķ l (Int.toNat i) f)=ü l i f:=by
 unfold ü
 by_cases h0:0≤i
 ·by_cases h1:i<l.length
  ·have e:((ile (0:Int) i)&&(ilt i (ą l)))=true:=by simp[ile,ilt,h0,h1]
   rw[ħ e];simp only[h0,decide_true];unfold Ķ;rfl
  ·have e:((ile (0:Int) i)&&(ilt i (ą l)))=false:=by simp[ile,ilt,h1]
   rw[e];simp only[h0,decide_true];rw[fR (by omega)];rfl
 ·have e:((ile (0:Int) i)&&(ilt i (ą l)))=false:=by simp[ile,ilt,h0]
  rw[e];simp only[h0,decide_false];rfl
def anQ {ρ:Type} (ns:List (Int×Int)) (n:Int):@vr ρ ns n=@Ē ρ n ns:=by
 funext v0 v1 v2 v3 v4 v5 v6 v7 kn k0 k1;unfold vr Ē;rw[al9]
def afh (B:ß) (ns:List (Int×Int)) (s:Int×Int):Int×Int:=ns.foldl (fun s n=>(s.1+(ivR B n).1,s.2+(ivR B n).2)) s
def pileR (B:ß) (f:Int×Int) (ns:List (Int×Int)):Int×Int:=afh B ns (((ns.length:Int)-1)*f.1,((ns.length:Int)-1)*f.2)
def aoA (b:ß) (day:Int) (ids:List Int):(Int×Int)×Int :=
 if ä b≠0 then((0,0),ä b) else if ids.length=0∨lU ids=false∨H8 day=false then((0,0),1) else
 if (Ą b (onP day ids)).2≠0 then((0,0),(Ą b (onP day ids)).2) else(pileR (Ą b (onP day ids)).1 b.1 (onP day ids),0)
def ac2 (B:ß) (x y:List (Int×Int)) (s:Int×Int):afh B (x++y) s=afh B y (afh B x s):=by unfold afh; rw[List.foldl_append]
def aih {B:ß} (h:anw B):∀(ns:List (Int×Int)) (s:Int×Int) (m:Int),-m≤s.1∧s.1≤m→-m≤s.2∧s.2≤m →
 (-(m+ns.length*9007199254740992)≤(afh B ns s).1∧(afh B ns s).1≤m+ns.length*9007199254740992)∧(-(m+ns.length*9007199254740992)≤(afh B ns s).2∧(afh B ns s).2≤m+ns.length*9007199254740992)
 |[],s,m,h1,h2=>by unfold afh; simp; omega
 |n::t,s,m,h1,h2=>by
  have b1:=J3 h (Κ B n) (iz B);have b2:=J3 h (iz B) (Κ B n);have:=aih h t (s.1+(ivR B n).1,s.2+(ivR B n).2) (m+9007199254740992) (by unfold ivR; dsimp only; omega) (by unfold ivR; dsimp only; omega);show(-(m+((n::t).length:Nat)*9007199254740992)≤(afh B t _).1∧_)∧_;unfold afh at this ⊢;simp only[List.foldl_cons,List.length_cons];push_cast;omega
def aoz {b:ß} (hI:In b) (day:Int) {ids:List Int} (hl:ids.length≤1000):Ny b day ids=some (aoA b day ids):=by
 unfold Ny Xw aoA;rw[ja hI.size hI.num,À,alx (by omega),À,anH,À,é]
 by_cases hc:ä b=0
 ·rw[Ò (by simp[ine,hc]),if_neg (show ¬(ä b≠0) from fun h=>h hc)]
  by_cases h0:ids.length=0
  ·rw[Õ (by simp[ieq,h0]),if_pos (.inl h0)]
  ·rw[Ò (beq_eq_false_iff_ne.2 (by omega))]
   by_cases h1:lU ids=true
   ·have hp:=(En ids).1 h1
    have e1:(lU ids&&decide ((ids.length:Int)≤6))=true:=by rw[h1]; simp; omega
    rw[e1,Ò (by rfl)]
    by_cases h2:H8 day=true
    ·have hg:=(ð b).1 hc;rw[Ò (by rw[h2]; rfl),if_neg (by simp[h0,h1,h2]),ail (by simp) (by simp; omega),À]
     have hlen:(onP day ids).length=ids.length:=by simp[onP]
     rw[show([ids]:List (List Int)).flatten=ids by simp,anQ,←ja hI.size hI.num];refine(uQ hI (ns:=onP day ids) (by omega) (fun e=>some (((0,0):Int×Int),e)) (fun e he=>by rw[Õ (by simp[ine,he])]) (fun z he=>by rw[Õ (by simp[ine,he])]) (fun _ _ _=>rfl)).trans ?_
     split
     ·rfl
     ·rename_i e;have hr:=(kU hI (by simpa using e)).1;have hf:=hg.film;dsimp only;generalize (Ą b (onP day ids)).1=B at hr ⊢
      have hm:∀x:Int,0≤x→x≤1000000→0≤((ids.length:Int)-1)*x∧((ids.length:Int)-1)*x≤10000000:=by
       intro x h0 h1;have:((ids.length:Int)-1)*x≤5*1000000:=eY (by omega) h1 h0 (by omega);exact⟨fA (by omega) h0,by omega⟩
      have m1:=hm b.1.1 (by omega) (by omega);have m2:=hm b.1.2 (by omega) (by omega);rw[Ó (by omega) (by omega),Ó (by omega) (by omega),Ó (by omega) (by omega),zx,show((((Ì B).length:Int)+1,á B):Sys)=RW B from rfl];unfold pileR;rw[hlen];refine ñ (onP day ids) (fun i=>afh B ((onP day ids).take i) (((ids.length:Int)-1)*b.1.1,((ids.length:Int)-1)*b.1.2)) _ rfl (fun i n hi hn kn=>?_) (fun kn=>?_)
      ·try dsimp only
       unfold vq;have b1:=J3 hr (Κ B n) (iz B);have b2:=J3 hr (iz B) (Κ B n);have bs:=aih hr ((onP day ids).take i) (((ids.length:Int)-1)*b.1.1,((ids.length:Int)-1)*b.1.2) 10000000 (by dsimp only; omega) (by dsimp only; omega)
       have bl:(((onP day ids).take i).length:Int)≤6:=by rw[dh]; omega
       rw[Ô hi,Ë hn,vU hr,À,take_succ hn,ac2];generalize afh B ((onP day ids).take i) (((ids.length:Int)-1)*b.1.1,((ids.length:Int)-1)*b.1.2)=s at bs ⊢;unfold ivR;dsimp only;rw[Ó (by omega) (by omega),Ó (by omega) (by omega),Î hi (by omega)];rfl
      ·try dsimp only
       unfold vq;rw[à,List.take_length]
    ·have h2':H8 day=false:=by simpa using h2
     rw[h2',Õ (by rfl),if_pos (.inr (.inr rfl))]
   ·have h1':lU ids=false:=by simpa using h1
    rw[h1',Õ (by rfl),if_pos (.inr (.inl rfl))]
 ·rw[Õ (by simp[ine,hc]),if_pos hc]
def qk {α:Type} (p:α→Bool) (l:List α) (i:Nat):((l.take i).filter p).length≤l.length:=by
 have h1:=dG p (l.take i);rw[dh] at h1;omega
def UB (x y:Int) (g:Bool):∀m:List (Int×Bool),ta (k:=tI) (v:=.bool) x (Ni (k:=tI) (v:=.bool) y g m)=if x=y then some g else ta (k:=tI) (v:=.bool) x m
 |[]=>by
  unfold Ni ta ks ta
  by_cases h:x=y<;>simp[h]
 |e::m=>by
  unfold Ni
  by_cases h:y=e.1
  ·have:ks tI y e.1=true:=by simp[ks,h]
   rw[this]
   try dsimp only
   unfold ta ks
   by_cases h2:x=y
   ·simp[h2]
   ·have:¬x=e.1:=fun h3=>h2 (h3.trans h.symm);simp[h2,this]
  ·have:ks tI y e.1=false:=by simp[ks,h]
   rw[this]
   try dsimp only
   have ih:=UB x y g m;unfold ta
   by_cases h2:x=e.1
   ·have:ks tI x e.1=true:=by simp[ks,h2]
    rw[this];have:¬x=y:=fun h3=>h (h3.symm.trans h2);simp[this]
   ·have:ks tI x e.1=false:=by simp[ks,h2]
    rw[this];exact ih
def RZ (l:List Int):List (Int×Bool):=l.foldl (fun m x=>Ni (k:=tI) (v:=.bool) x true m) []
def xx (l:List Int) (x:Int):RZ (l++[x])=Ni (k:=tI) (v:=.bool) x true (RZ l):=by unfold RZ; rw[List.foldl_append]; rfl
def aak (x:Int):∀(l:List Int) (m:List (Int×Bool)),ta (k:=tI) (v:=.bool) x (l.foldl (fun m x=>Ni (k:=tI) (v:=.bool) x true m) m)=if l.contains x then some true else ta (k:=tI) (v:=.bool) x m
 |[],m=>by simp
 |y::l,m=>by
  rw[f5,aak x l,UB]
  by_cases h:x=y
  ·subst h; simp
  ·simp[h]
def aai (l:List Int) (x:Int):ta (k:=tI) (v:=.bool) x (RZ l)=if l.contains x then some true else none:=aak x l []
def Ed (b:ß) (s:Int×Int):List Int:=if s.1=3 then(match b.2.2.2.2.1[s.2.toNat]? with|some c=>c.2.2.1++c.2.2.2.1|none=>[]) else(match b.2.1[s.2.toNat]? with|some g=>[g.1]|none=>[])
def Rj (b:ß) (ss looks:List (Int×Int)):List Int:=ss.flatMap (Ed b)++looks.map fun n=>n.1
def HO (ss:List (Int×Int)):List Int:=(ss.filter fun s=>s.1==3).map fun s=>s.2
def DX (w:List Int):Nat→List Cmp→List Cmp
 |_,[]=>[]
 |i,c::t=>if w.contains (i:Int) then c::DX w (i+1) t else DX w (i+1) t
def cutP (b:ß) (ss looks:List (Int×Int)):ß :=
 (b.1,b.2.1.filter fun g=>(Rj b ss looks).contains g.1,b.2.2.1.filter fun u=>(Rj b ss looks).contains u.1,b.2.2.2.1.filter fun l=>(Rj b ss looks).contains l.1,DX (HO ss) 0 b.2.2.2.2.1,looks)
def aov (b:ß) (s:Int×Int):Prop:=((s.1=1∨s.1=2)∧0≤s.2∧s.2<b.2.1.length)∨(s.1=3∧0≤s.2∧s.2<b.2.2.2.2.1.length)
def U6 (w:List Int) (c:Cmp):∀(l:List Cmp) (i:Nat),DX w i (l++[c])=DX w i l++if w.contains ((i+l.length:Nat):Int) then[c] else[]
 |[],i=>by simp only[f6,DX,dm,fD]
 |a::l,i=>by
  have e:((i+1+l.length:Nat):Int)=((i+(l.length+1):Nat):Int):=by congr 1; omega
  simp only[eM,DX,U6 w c l (i+1),dc,e]
  split<;>rfl
def QO (w:List Int):∀(l:List Cmp) (i:Nat),(DX w i l).length≤l.length
 |[],i=>by simp[DX]
 |a::l,i=>by
  have:=QO w l (i+1);simp only[DX]
  split<;>simp only[dc]<;>omega
def zt {ρ:Type} (x:Int) (l:List Int) (f:Bool→Option ρ) (g:Option ρ):Y7 (k:=tI) (v:=.bool) x (RZ l) f g=if l.contains x then f true else g:=by
 unfold Y7;rw[aai]
 by_cases h:l.contains x=true
 ·rw[if_pos h,if_pos h]
 ·rw[if_neg h,if_neg h]
section
variable {ρ:Type}
def cut_L3 (l:List (Int×Int)) (hl:l.length≤1000) (ids:List Int) (K:List (Int×Int)→Option ρ):Ñ (fun(v47:(Val (.pair tI (.slice Ã)))) kk50=>tv l (Þ l) (RZ ids) v47.1 v47.2 (fun u48 u49=>kk50 (u48,u49)) K) ((0:Int),[])=K (l.filter fun u=>ids.contains u.1):=by
 refine ñ l (fun i=>(l.take i).filter fun u=>ids.contains u.1) _ rfl (fun i a hi ha kn=>?_) (fun kn=>?_)
 ·try dsimp only
  unfold tv;have h1:=qk (fun u:Int×Int=>ids.contains u.1) l i;rw[Ô hi,Ë ha,zt,take_succ ha,List.filter_append]
  by_cases h:ids.contains a.1=true
  ·rw[if_pos h,Ľ,ħ (Ö (by simp only[dz]; omega)),Î hi (by omega)];simp only[dS,dY,h,if_pos]
  ·rw[if_neg h,Î hi (by omega)];simp only[dS,dY,h,if_neg,dn,not_false_eq_true,dI]
 ·try dsimp only
  unfold tv;rw[à,List.take_length]
def cut_L4 (l:List Kj) (hl:l.length≤1000) (ids:List Int) (K:List Kj→Option ρ):Ñ (fun(v47:(Val (.pair tI (.slice ō)))) kk50=>tr l (Þ l) (RZ ids) v47.1 v47.2 (fun u48 u49=>kk50 (u48,u49)) K) ((0:Int),[])=K (l.filter fun u=>ids.contains u.1):=by
 refine ñ l (fun i=>(l.take i).filter fun u=>ids.contains u.1) _ rfl (fun i a hi ha kn=>?_) (fun kn=>?_)
 ·try dsimp only
  unfold tr;have h1:=qk (fun u:Kj=>ids.contains u.1) l i;rw[Ô hi,Ë ha,zt,take_succ ha,List.filter_append]
  by_cases h:ids.contains a.1=true
  ·rw[if_pos h,Ľ,ħ (Ö (by simp only[dz]; omega)),Î hi (by omega)];simp only[dS,dY,h,if_pos]
  ·rw[if_neg h,Î hi (by omega)];simp only[dS,dY,h,if_neg,dn,not_false_eq_true,dI]
 ·try dsimp only
  unfold tr;rw[à,List.take_length]
def cut_L5 (l:List Cmp) (hl:l.length≤1000) (hp:∀c∈l,c.2.2.1.length≤1000∧c.2.2.2.1.length≤1000) (w:List Int) (K:List Cmp→Option ρ):Ñ (fun(v47:(Val (.pair tI (.slice É)))) kk50=>tq l (Þ l) (RZ w) v47.1 v47.2 (fun u48 u49=>kk50 (u48,u49)) K) ((0:Int),[])=K (DX w 0 l):=by
 refine ñ l (fun i=>DX w 0 (l.take i)) _ rfl (fun i a hi ha kn=>?_) (fun kn=>?_)
 ·try dsimp only
  unfold tq;have h1:=QO w (l.take i) 0;have h2:=hp a (List.mem_of_getElem? ha)
  have e:(l.take i).length=i:=by rw[dh]; omega
  rw[Ô hi,Ë ha,zt,take_succ ha,U6,e,dt]
  by_cases h:w.contains (i:Int)=true
  ·rw[if_pos h,if_pos h,Ľ,ħ (Ö (by omega)),ħ (Ö (by omega)),ħ (Ö (by simp only[dz]; omega)),Î hi (by omega)]
  ·rw[if_neg h,if_neg h,Î hi (by omega)];simp only[dI]
 ·try dsimp only
  unfold tq;rw[à,List.take_length]
def cut_L2 (looks:List (Int×Int)) (hl:looks.length≤1000) (ids:List Int) (K:List (Int×Bool)→Option ρ):Ñ (fun(v51:(Val (.pair tI (.map tI .bool)))) kk54=>tx looks (Þ looks) v51.1 v51.2 (fun u52 u53=>kk54 (u52,u53)) K) ((0:Int),RZ ids)=K (RZ (ids++looks.map fun n=>n.1)):=by
 refine ñ looks (fun i=>RZ (ids++(looks.take i).map fun n=>n.1)) _ (by simp) (fun i a hi ha kn=>?_) (fun kn=>?_)
 ·try dsimp only
  unfold tx;rw[Ô hi,Ë ha,Î hi (by omega),take_succ ha,List.map_append,←List.append_assoc,List.map_singleton,xx]
 ·try dsimp only
  unfold tx;rw[à,List.take_length]
def cut_L1 (xs:List Int) (hl:xs.length≤10000) (ids:List Int) (K:List (Int×Bool)→Option ρ):Ñ (fun(v13:(Val (.pair tI (.map tI .bool)))) kk16=>tz xs (Þ xs) v13.1 v13.2 (fun u14 u15=>kk16 (u14,u15)) K) ((0:Int),RZ ids)=K (RZ (ids++xs)):=by
 refine ñ xs (fun i=>RZ (ids++xs.take i)) _ (by simp) (fun i a hi ha kn=>?_) (fun kn=>?_)
 ·try dsimp only
  unfold tz;rw[Ô hi,Ë ha,Î hi (by omega),take_succ ha,←List.append_assoc,xx]
 ·try dsimp only
  unfold tz;rw[à,List.take_length]
end
def ii {ρ α:Type} {l:List α} {i:Int} (h0:0≤i) {a:α} (h:l[i.toNat]?=some a) (f:α→Option ρ):ü l i f=f a:=by
 obtain⟨n,rfl⟩:=gG h0;exact Ë (by simpa using h) f
def cut_ok {b:ß} (hs:Ŵ b) {ss looks:List (Int×Int)} (h1:ss.length≤1000) (h2:looks.length≤1000) (hv:∀s∈ss,aov b s):Q7 b ss looks=some (cutP b ss looks):=by
 have g1:=hs.gauges; have g2:=hs.uses; have g3:=hs.loans; have g4:=hs.compares; have g5:=hs.looks;unfold Q7 ai9 F0;refine ñ ss (fun i=>(RZ ((ss.take i).flatMap (Ed b)),RZ (HO (ss.take i)))) _ rfl (fun i s hi ha kn=>?_) (fun kn=>?_)
 ·try dsimp only
  unfold Ah;have hok:=hv s (List.mem_of_getElem? ha);rw[Ô hi,Ë ha,take_succ ha,List.flatMap_append]
  have e3:HO (ss.take i++[s])=HO (ss.take i)++if s.1=3 then[s.2] else[]:=by
   unfold HO;rw[List.filter_append,List.map_append];congr 1
   by_cases h:s.1=3<;>simp[h]
  rw[e3];rcases hok with⟨hk,h0,h3⟩|⟨hk,h0,h3⟩
  ·have hg:b.2.1[s.2.toNat]?=some b.2.1[s.2.toNat]:=cN (by omega);generalize b.2.1[s.2.toNat]=g at hg
   have e1:Ed b s=[g.1]:=by
    unfold Ed;rw[if_neg (by omega),hg]
   have e2:List.flatMap (Ed b) [s]=[g.1]:=by simp[e1]
   rw[Ò (decide_eq_false (by omega)),if_neg (by omega),dI,e2,xx];rcases hk with hk|hk
   ·rw[Õ (decide_eq_true hk),ii h0 hg,Î hi (by omega)]
   ·rw[Ò (decide_eq_false (by omega)),Õ (decide_eq_true hk),ii h0 hg,Î hi (by omega)]
  ·have hc:b.2.2.2.2.1[s.2.toNat]?=some b.2.2.2.2.1[s.2.toNat]:=cN (by omega);have hp:=hs.piles b.2.2.2.2.1[s.2.toNat] (fp _);generalize b.2.2.2.2.1[s.2.toNat]=c at hc hp
   have e1:Ed b s=c.2.2.1++c.2.2.2.1:=by
    unfold Ed;rw[if_pos hk,hc]
   have e2:List.flatMap (Ed b) [s]=c.2.2.1++c.2.2.2.1:=by simp[e1]
   rw[Ò (decide_eq_false (by omega)),Ò (decide_eq_false (by omega)),Ò (decide_eq_false (by omega)),ħ (decide_eq_true hk),if_pos hk,e2,ii h0 hc,ii h0 hc,pw (by simp) (by simp; omega),À];rw[show([c.2.2.1,c.2.2.2.1]:List (List Int)).flatten=c.2.2.1++c.2.2.2.1 by simp];refine(cut_L1 (c.2.2.1++c.2.2.2.1) (by simp; omega) _ _).trans ?_;rw[xx,Î hi (by omega)]
 ·try dsimp only
  unfold Ah;rw[à];dsimp only;rw[List.take_length];refine(cut_L2 looks h2 _ _).trans ?_;rw[show(ss.flatMap (Ed b)++looks.map fun n=>n.1)=Rj b ss looks from rfl];unfold Ar
  try dsimp only
  rw[ħ (Ö (by omega)),À]
  have ek:(List.filter (fun g=>(ta (k:=tI) (v:=.bool) g.1 (RZ (Rj b ss looks))).getD false) b.2.1)=b.2.1.filter fun g=>(Rj b ss looks).contains g.1:=by
   refine List.filter_congr fun g _=>?_;rw[aai]
   cases(Rj b ss looks).contains g.1<;>rfl
  rw[ek];unfold nz;dsimp only;refine(cut_L3 b.2.2.1 g2 _ _).trans ?_;refine(cut_L4 b.2.2.2.1 g3 _ _).trans ?_;refine(cut_L5 b.2.2.2.2.1 g4 hs.piles _ _).trans ?_;rfl
def ais {α:Type} [DecidableEq α] {l m:List α} (hl:l.length=m.length) (h:ķ (fun i a=>if m[i]?=some a then none else some false) 0 l=none):l=m:=by
 have:=iJ.1 h;refine List.ext_getElem hl fun i h1 h2=>?_;have h3:=this i l[i] (cN h1);rw[dt] at h3
 split at h3
 ·rename_i h4;rw[cN h2] at h4;exact(Option.some.inj h4).symm
 ·cases h3
def air {α:Type} [DecidableEq α] {l m:List α} {b:Bool} (h:ķ (fun i a=>if m[i]?=some a then none else some false) 0 l=some b):b=false∧l≠m:=by
 constructor
 ·have:∀(k:Nat) (x:List α) (b:Bool),ķ (fun i a=>if m[i]?=some a then none else some false) k x=some b→b=false:=by
   intro k x
   induction x generalizing k with
   |nil=>intro b h; cases h
   |cons a t ih =>
    intro b h;unfold ķ at h
    split at h
    ·rename_i c hc
     split at hc
     ·cases hc
     ·cases hc; cases h; rfl
    ·exact ih _ _ h
  exact this _ _ _ h
 ·intro e;subst e;rw[iJ.2 fun j a ha=>by rw[dt,if_pos ha]] at h;cases h
instance dec1:DecidableEq ((Int×Int)×Int):=fun a b=>instDecidableEqProd a b
instance dec2:DecidableEq ((Int×Int)×((Int×Int)×Int)):=fun a b=>instDecidableEqProd a b
instance dec3:DecidableEq (Int×(Int×Int)×((Int×Int)×Int)):=fun a b=>instDecidableEqProd a b
instance dec4:DecidableEq (Int×Int×(Int×Int)×((Int×Int)×Int)):=fun a b=>instDecidableEqProd a b
instance decG:DecidableEq î:=fun a b=>instDecidableEqProd a b
instance decL:DecidableEq Kj:=fun a b=>instDecidableEqProd a b
instance decI4:DecidableEq (Int×(Int×(Int×Int))):=fun a b=>instDecidableEqProd a b
instance decI5:DecidableEq (List Int×Int×(Int×(Int×Int))):=fun a b=>instDecidableEqProd a b
instance decI6:DecidableEq (List Int×List Int×Int×(Int×(Int×Int))):=fun a b=>instDecidableEqProd a b
instance decI7:DecidableEq (Int×List Int×List Int×Int×(Int×(Int×Int))):=fun a b=>instDecidableEqProd a b
instance decC:DecidableEq Cmp:=fun a b=>instDecidableEqProd a b
def Wp {α:Type} [DecidableEq α] (x:α) (l:List α):Bool:=l.any fun a=>decide (x=a)
def afJ {α:Type} [DecidableEq α] {x:α} {l:List α}:Wp x l=true↔x∈l:=by
 unfold Wp;rw[List.any_eq_true];exact⟨fun⟨a,h1,h2⟩=>by rw[of_decide_eq_true h2]; exact h1,fun h=>⟨x,h,decide_eq_true rfl⟩⟩
def adv {α:Type} [DecidableEq α] (l:List α) (x:α):ige (match l.findIdx? (fun a=>decide (x=a)) with|some j=>(j:Int)|none=>-1) 0=Wp x l:=by
 cases h:l.findIdx? (fun a=>decide (x=a)) with
 |none =>
  have:Wp x l=false:=by
   cases hm:Wp x l with
   |false=>rfl
   |true=>have:=eA.1 h x (afJ.1 hm); simp at this
  rw[this];rfl
 |some j =>
  obtain⟨hj,hp,_⟩:=dM.1 h
  have:x∈l:=by rw[of_decide_eq_true hp]; exact fp _
  rw[afJ.2 this];exact decide_eq_true (by dsimp only; omega)
def ai4 {ρ:Type} (o:Option Nat) (f:Int→Option ρ):(match o with|some j=>f (j:Int)|none=>f (-1))=f (match o with|some j=>(j:Int)|none=>-1):=by cases o<;>rfl
def acQ {l:List (Int×Int)} (hl:l.length≤1000000) (x:Int×Int):Ě l x=some (Wp x l):=by
 unfold Ě ŭ ξ η
 have e:Ñ (fun(v5:Int) kk7=>Ę l (Þ l) x.1 x.2 v5 (fun u6=>kk7 u6) (fun z3=>some z3) (fun _=>some (-1:Int))) (0:Int)=some (match l.findIdx? (fun a=>decide (x=a)) with|some j=>(j:Int)|none=>-1):=by
  refine(ic l (fun a=>decide (x=a)) (fun z=>some z) (some (-1)) (fun i a hi ha kn=>?_) (fun kn=>?_)).trans (ai4 _ some)
  ·try dsimp only
   unfold Ę
   have e:((Ŋ x.1 a.1)&&((Ŋ x.2 a.2)&&true))=decide (x=a):=by
    rw[dN]; simp[Ŋ,gR]
   rw[Ô hi,Ë ha,Î hi (by omega),Ĕ,e]
  ·try dsimp only
   unfold Ę;rw[à]
 rw[e,À];exact congrArg some (adv l x)
def Y4 {l:List Kj} (hl:l.length≤1000000) (x:Kj):č l x=some (Wp x l):=by
 unfold č ŗ Α Ž
 have e:Ñ (fun(v5:Int) kk7=>Č l (Þ l) x.1 x.2.1.1 x.2.1.2 x.2.2 v5 (fun u6=>kk7 u6) (fun z3=>some z3) (fun _=>some (-1:Int))) (0:Int)=some (match l.findIdx? (fun a=>decide (x=a)) with|some j=>(j:Int)|none=>-1):=by
  refine(ic l (fun a=>decide (x=a)) (fun z=>some z) (some (-1)) (fun i a hi ha kn=>?_) (fun kn=>?_)).trans (ai4 _ some)
  ·try dsimp only
   unfold Č
   have e:((Ŋ x.1 a.1)&&((Ŋ x.2.1.1 a.2.1.1)&&((Ŋ x.2.1.2 a.2.1.2)&&((Ŋ x.2.2 a.2.2)&&true))))=decide (x=a):=by
    rw[dN]; simp[Ŋ,gR,and_assoc]
   rw[Ô hi,Ë ha,Î hi (by omega),Ĕ,e]
  ·try dsimp only
   unfold Č;rw[à]
 rw[e,À];exact congrArg some (adv l x)
def acR {l:List î} (hl:l.length≤1000000) (x:î):Ġ l x=some (Wp x l):=by
 unfold Ġ ŋ Ť ţ
 have e:Ñ (fun(v5:Int) kk7=>ă l (Þ l) x.1 x.2.1 x.2.2.1 x.2.2.2.1.1 x.2.2.2.1.2 x.2.2.2.2.1.1 x.2.2.2.2.1.2 x.2.2.2.2.2 v5 (fun u6=>kk7 u6) (fun z3=>some z3) (fun _=>some (-1:Int))) (0:Int)=some (match l.findIdx? (fun a=>decide (x=a)) with|some j=>(j:Int)|none=>-1):=by
  refine(ic l (fun a=>decide (x=a)) (fun z=>some z) (some (-1)) (fun i a hi ha kn=>?_) (fun kn=>?_)).trans (ai4 _ some)
  ·try dsimp only
   unfold ă
   have e:((Ŋ x.1 a.1)&&((Ŋ x.2.1 a.2.1)&&((Ŋ x.2.2.1 a.2.2.1)&&((Ŋ x.2.2.2.1.1 a.2.2.2.1.1)&&((Ŋ x.2.2.2.1.2 a.2.2.2.1.2)&&((Ŋ x.2.2.2.2.1.1 a.2.2.2.2.1.1)&&((Ŋ x.2.2.2.2.1.2 a.2.2.2.2.1.2)&&((Ŋ x.2.2.2.2.2 a.2.2.2.2.2)&&true))))))))=decide (x=a):=by
    rw[dN]; simp[Ŋ,gR,and_assoc]
   rw[Ô hi,Ë ha,Î hi (by omega),Ĕ,e]
  ·try dsimp only
   unfold ă;rw[à]
 rw[e,À];exact congrArg some (adv l x)
def ajB (b:ß):List Int:=b.2.1.map fun g=>g.1
def l9 {α:Type} [DecidableEq α] (x y:List α) (w:α→Bool):Bool:=x.all fun a=>!w a||Wp a y
def alN (s b:ß):Bool :=
 l9 s.2.2.2.2.1 b.2.2.2.2.1 (fun _=>true)&&(decide (s.1=b.1)&&(l9 s.2.1 b.2.1 (fun _=>true)&&(l9 s.2.2.1 b.2.2.1 (fun u=>(ajB s).contains u.1)&&(l9 b.2.2.1 s.2.2.1 (fun u=>(ajB s).contains u.1) &&
  (l9 s.2.2.2.1 b.2.2.2.1 (fun u=>(ajB s).contains u.1)&&l9 b.2.2.2.1 s.2.2.2.1 (fun u=>(ajB s).contains u.1))))))
section
variable {ρ:Type}
def Ke {α:Type} [DecidableEq α] (x y:List α) (w:α→Bool) (X Y KF:Option ρ) {f:Int→(Int→Option ρ)→Option ρ}
 (h:∀(i:Nat) (a:α),i<x.length→x[i]?=some a→∀kn,f i kn=if !(!w a||Wp a y) then(ifb (!(ige (i:Int) 0)) X KF) else kn ((i:Int)+1))
 (hn:∀kn,f x.length kn=Y):Ñ f 0=if l9 x y w then Y else KF:=by
 refine(ń x (fun a=>!(!w a||Wp a y)) (fun z=>ifb (!(ige z 0)) X KF) KF Y (fun j=>by rw[show ige (j:Int) 0=true from decide_eq_true (by omega)]; rfl) h hn).trans ?_;unfold l9;rw[List.all_eq_not_any_not]
 cases x.any fun a=>!(!w a||Wp a y)<;>rfl
def anT:@vg ρ=@mB ρ:=rfl
def U3 {x y:List Int} (hl:x.length=y.length) (hx:x.length≤1000000) (k0:Bool→Option ρ) (K:Option ρ) :
 Ñ (fun(v30:Int) kk32=>mB x y (Þ x) v30 (fun u31=>kk32 u31) k0 (fun _=>K)) (0:Int)=if x=y then K else k0 false:=by
 refine(kF x (fun i a=>if y[i]?=some a then none else some false) k0 K (fun i a hi ha kn=>?_) (fun kn=>?_)).trans ?_
 ·try dsimp only
  unfold mB;have hm:y[i]?=some y[i]:=List.getElem?_eq_getElem (by omega);rw[Ô hi,Ë ha,Ë hm,Î hi (by omega),hm,Ĕ]
  by_cases h:a=y[i]
  ·simp[ine,h]
  ·have h':¬y[i]=a:=fun e=>h e.symm;simp[ine,h,h']
 ·try dsimp only
  unfold mB;rw[à]
 ·cases h:ķ (fun i a=>if y[i]?=some a then none else some false) 0 x with
  |none=>rw[if_pos (ais hl h)]
  |some b =>
   obtain⟨h1,h2⟩:=air h;rw[if_neg h2,h1]
def ait {l:List Cmp} (hl:l.length≤1000) (c:Cmp) (hA:c.2.2.1.length≤1000) (hB:c.2.2.2.1.length≤1000) (k0:Int→Option ρ) (K1 KF:Option ρ) (hk:∀j:Nat,k0 (j:Int)=K1) :
 Ñ (fun(v41:Int) kk43=>pT l (Þ l) c.1 c.2.1 c.2.2.1 c.2.2.2.1 c.2.2.2.2.1 c.2.2.2.2.2.1 c.2.2.2.2.2.2.1 c.2.2.2.2.2.2.2 v41 (fun u42=>kk43 u42) k0 (fun _=>KF)) (0:Int)=if Wp c l then K1 else KF:=by
 refine(ń l (fun d=>decide (c=d)) k0 K1 KF hk (fun i d hi hd kn=>?_) (fun kn=>?_)).trans rfl
 ·try dsimp only
  unfold pT
  have hsplit:(c=d)↔(c.1=d.1∧c.2.1=d.2.1∧c.2.2.2.2.1=d.2.2.2.2.1∧c.2.2.2.2.2.1=d.2.2.2.2.2.1∧(c.2.2.2.2.2.2.1=d.2.2.2.2.2.2.1∧c.2.2.2.2.2.2.2=d.2.2.2.2.2.2.2)∧c.2.2.1=d.2.2.1∧c.2.2.2.1=d.2.2.2.1):=by
   simp only[gR];constructor
   ·rintro⟨a1,a2,a3,a4,a5,a6,a7,a8⟩; exact⟨a1,a2,a5,a6,⟨a7,a8⟩,a3,a4⟩
   ·rintro⟨a1,a2,a5,a6,⟨a7,a8⟩,a3,a4⟩; exact⟨a1,a2,a3,a4,a5,a6,a7,a8⟩
  have hno:∀{P:Prop},¬P→(c=d→P)→(if decide (c=d)=true then k0 (i:Int) else kn ((i:Int)+1))=kn ((i:Int)+1):=fun h1 h2=>by
   rw[if_neg];intro h;exact h1 (h2 (of_decide_eq_true h))
  rw[Ô hi,Ë hd,Î hi (by omega)]
  by_cases a1:c.1=d.1
  case neg=>rw[hno a1 (fun e=>(hsplit.1 e).1),Ò (beq_eq_false_iff_ne.2 a1)]
  rw[Õ (beq_iff_eq.2 a1)]
  by_cases a2:c.2.1=d.2.1
  case neg=>rw[hno a2 (fun e=>(hsplit.1 e).2.1),Ò (beq_eq_false_iff_ne.2 a2)]
  rw[Õ (beq_iff_eq.2 a2)]
  by_cases a3:c.2.2.2.2.1=d.2.2.2.2.1
  case neg=>rw[hno a3 (fun e=>(hsplit.1 e).2.2.1),Ò (beq_eq_false_iff_ne.2 a3)]
  rw[Õ (beq_iff_eq.2 a3)]
  by_cases a4:c.2.2.2.2.2.1=d.2.2.2.2.2.1
  case neg=>rw[hno a4 (fun e=>(hsplit.1 e).2.2.2.1),Ò (beq_eq_false_iff_ne.2 a4)]
  rw[Õ (beq_iff_eq.2 a4)]
  by_cases a5:c.2.2.2.2.2.2.1=d.2.2.2.2.2.2.1∧c.2.2.2.2.2.2.2=d.2.2.2.2.2.2.2
  case neg=>rw[hno a5 (fun e=>(hsplit.1 e).2.2.2.2.1),Ò (by simp only[Ŋ,gJ,Bool.and_eq_false_iff,decide_eq_false_iff_not]; exact Decidable.not_and_iff_or_not.1 a5)]
  rw[Õ (by simp[Ŋ,a5.1,a5.2]),é,é,é,é]
  have rest:∀X Y:Option ρ,(c.2.2.1=d.2.2.1)→(if decide (c=d)=true then k0 (i:Int) else kn ((i:Int)+1))=(if c.2.2.2.1=d.2.2.2.1 then k0 (i:Int) else kn ((i:Int)+1)):=by
   intro _ _ h
   by_cases g:c.2.2.2.1=d.2.2.2.1
   ·rw[if_pos (decide_eq_true (hsplit.2 ⟨a1,a2,a3,a4,a5,h,g⟩)),if_pos g]
   ·rw[if_neg g]; exact hno g (fun e=>(hsplit.1 e).2.2.2.2.2.2)
  by_cases l1:c.2.2.1.length=d.2.2.1.length
  case neg =>
   rw[hno l1 (fun e=>by rw[e]),Õ (bne_iff_ne.2 (by omega))]
  rw[Ò (by rw[l1]; exact bne_self_eq_false' _)];have e3:=U3 (ρ:=ρ) l1 (by omega);rw[é] at e3;rw[e3]
  by_cases g1:c.2.2.1=d.2.2.1
  case neg=>rw[if_neg g1,ô,hno g1 (fun e=>(hsplit.1 e).2.2.2.2.2.1)]
  rw[if_pos g1,rest none none g1]
  by_cases l2:c.2.2.2.1.length=d.2.2.2.1.length
  case neg =>
   rw[Õ (bne_iff_ne.2 (by omega)),if_neg (fun e=>l2 (by rw[e]))]
  rw[Ò (by rw[l2]; exact bne_self_eq_false' _),anT];have e4:=U3 (ρ:=ρ) l2 (by omega);rw[é] at e4;rw[e4,ô]
 ·try dsimp only
  unfold pT;rw[à]
def anS:@mA ρ=@kp ρ:=rfl
def anR:@ĕ ρ=@Ń ρ:=rfl
def aoD {x y:List î} (hx:x.length≤1000) (hy:y.length≤1000) (X Y KF:Option ρ):Ñ (fun(v225:Int) kk227=>pS x (Þ x) y v225 (fun u226=>kk227 u226) (fun z=>ifb (!(ige z 0)) X KF) (fun _=>Y)) (0:Int)=if l9 x y (fun _=>true) then Y else KF:=by
 refine Ke x y (fun _=>true) X Y KF (fun i a hi ha kn=>?_) (fun kn=>?_)
 ·try dsimp only
  unfold pS;rw[Ô hi,Ë ha,acR (by omega),À,Î hi (by omega),Ĕ];simp
 ·try dsimp only
  unfold pS;rw[à]
def ak6 {x y:List (Int×Int)} (hx:x.length≤1000) (hy:y.length≤1000) (ids:List Int) (X Y KF:Option ρ):Ñ (fun(v225:Int) kk227=>kp x (Þ x) (RZ ids) y v225 (fun u226=>kk227 u226) (fun z=>ifb (!(ige z 0)) X KF) (fun _=>Y)) (0:Int)=if l9 x y (fun u=>ids.contains u.1) then Y else KF:=by
 refine Ke x y (fun u=>ids.contains u.1) X Y KF (fun i a hi ha kn=>?_) (fun kn=>?_)
 ·try dsimp only
  unfold kp;rw[Ô hi,Ë ha,zt,acQ (by omega),À]
  by_cases h:ids.contains a.1=true
  ·rw[if_pos h,Ľ,Î hi (by omega),Ĕ,h];simp
  ·rw[if_neg h,Î hi (by omega)];have h':=Bool.not_eq_true _▸h;rw[h'];simp
 ·try dsimp only
  unfold kp;rw[à]
def ak5 {x y:List Kj} (hx:x.length≤1000) (hy:y.length≤1000) (ids:List Int) (X Y KF:Option ρ):Ñ (fun(v225:Int) kk227=>Ń x (Þ x) (RZ ids) y v225 (fun u226=>kk227 u226) (fun z=>ifb (!(ige z 0)) X KF) (fun _=>Y)) (0:Int)=if l9 x y (fun u=>ids.contains u.1) then Y else KF:=by
 refine Ke x y (fun u=>ids.contains u.1) X Y KF (fun i a hi ha kn=>?_) (fun kn=>?_)
 ·try dsimp only
  unfold Ń;rw[Ô hi,Ë ha,zt,Y4 (by omega),À]
  by_cases h:ids.contains a.1=true
  ·rw[if_pos h,Ľ,Î hi (by omega),Ĕ,h];simp
  ·rw[if_neg h,Î hi (by omega)];have h':=Bool.not_eq_true _▸h;rw[h'];simp
 ·try dsimp only
  unfold Ń;rw[à]
def aoC {x y:List Kj} (hx:x.length≤1000) (hy:y.length≤1000) (ids:List Int) (k:Bool→Option ρ):Ñ (fun(v225:Int) kk227=>Ń x (Þ x) (RZ ids) y v225 (fun u226=>kk227 u226) (fun z=>k (!(ige z 0))) (fun _=>k true)) (0:Int)=k (l9 x y (fun u=>ids.contains u.1)):=by
 have h:=ak5 (ρ:=ρ) hx hy ids (k true) (k true) (k false)
 have e:(fun z:Int=>ifb (!(ige z 0)) (k true) (k false))=fun z=>k (!(ige z 0)):=by
  funext z
  cases(!(ige z 0))<;>rfl
 rw[e] at h;rw[h]
 cases l9 x y (fun u=>ids.contains u.1)<;>rfl
def aoE {x y:List Cmp} (hx:x.length≤1000) (hp:∀c∈x,c.2.2.1.length≤1000∧c.2.2.2.1.length≤1000) (hy:y.length≤1000) (K:Option Bool):Ñ (fun(v228:Int) kk230=>pU x (Þ x) y v228 (fun u229=>kk230 u229) (fun z44=>some z44) (fun _=>K)) (0:Int)=if (x.all fun c=>Wp c y)=true then K else some false:=by
 refine(ń x (fun c=>!Wp c y) (fun _=>some false) (some false) K (fun _=>rfl) (fun i c hi hc kn=>?_) (fun kn=>?_)).trans ?_
 rotate_left
 ·try dsimp only
  unfold pU;rw[à]
 ·rw[List.all_eq_not_any_not]
  cases x.any fun c=>!Wp c y<;>rfl
 ·try dsimp only
  unfold pU;have h:=hp c (List.mem_of_getElem? hc);rw[Ô hi,Ë hc];refine(ait hy c h.1 h.2 _ (kn ((i:Int)+1)) (some false) (fun j=>by rw[show ige (j:Int) 0=true from decide_eq_true (by omega),Î hi (by omega)]; rfl)).trans ?_
  cases Wp c y<;>rfl
end
def part_ok {s b:ß} (hs:Ŵ s) (hb:Ŵ b):Hy s b=some (alN s b):=by
 have g1:=hs.gauges; have g2:=hs.uses; have g3:=hs.loans; have g4:=hs.compares;have b1:=hb.gauges; have b2:=hb.uses; have b3:=hb.loans; have b4:=hb.compares;unfold Hy Xj alN;rw[anS,anR];refine(ñ s.2.1 (fun i=>RZ (ajB (s.1,s.2.1.take i,s.2.2))) (some _) rfl (fun i g hi hg kn=>?_) (fun kn=>?_))
 ·try dsimp only
  unfold vh;rw[Ô hi,Ë hg,Î hi (by omega)];unfold ajB;dsimp only;rw[take_succ hg,List.map_append,List.map_singleton,xx]
 ·try dsimp only
  unfold vh;rw[à,List.take_length]
  try dsimp only
  rw[show ajB (s.1,s.2.1,s.2.2)=ajB s from rfl];refine(aoE g4 hs.piles b4 _).trans ?_;rw[show(l9 s.2.2.2.2.1 b.2.2.2.2.1 fun _=>true)=s.2.2.2.2.1.all fun c=>Wp c b.2.2.2.2.1 from rfl]
  by_cases hc:(s.2.2.2.2.1.all fun c=>Wp c b.2.2.2.2.1)=true
  case neg=>rw[if_neg hc,eE.2 hc]; rfl
  rw[if_pos hc,hc,dU]
  by_cases hf:s.1=b.1
  case neg =>
   have ef:(Ŋ s.1.1 b.1.1&&(Ŋ s.1.2 b.1.2&&true))=false:=by
    rw[gR] at hf;simp[Ŋ];omega
   rw[ef,ô,decide_eq_false hf];rfl
  have ef:(Ŋ s.1.1 b.1.1&&(Ŋ s.1.2 b.1.2&&true))=true:=by simp[Ŋ,hf]
  rw[ef,Ľ,decide_eq_true hf,dU];refine(aoD g1 b1 _ _ _).trans ?_;cases l9 s.2.1 b.2.1 fun _=>true
  case false=>rfl
  rw[if_pos rfl,dU];refine(ak6 g2 b2 _ _ _ _).trans ?_;cases l9 s.2.2.1 b.2.2.1 fun u=>(ajB s).contains u.1
  case false=>rfl
  rw[if_pos rfl,dU];refine(ak6 b2 g2 _ _ _ _).trans ?_;cases l9 b.2.2.1 s.2.2.1 fun u=>(ajB s).contains u.1
  case false=>rfl
  rw[if_pos rfl,dU];refine(ak5 g3 b3 _ _ _ _).trans ?_;cases l9 s.2.2.2.1 b.2.2.2.1 fun u=>(ajB s).contains u.1
  case false=>rfl
  rw[if_pos rfl,dU];exact aoC b3 g3 _ some
def xg (x:List Int) (y:List Int) (l:Lk):List Int:=if gv x l.2.1=ĭ then y else y.set l.1.toNat (min (gv y l.1) (l.2.2+gv x l.2.1))
def acd (L:List Lk) (N:Nat) (x:List Int):List Int:=L.foldl (xg x) (List.replicate N ĭ)
def exL (L:List Lk) (N:Nat) (to:Int):Nat→List Int
 |0=>(List.replicate N ĭ).set to.toNat 0
 |k+1=>acd L N (exL L N to k)
def oy (L:List Lk) (N:Nat) (to:Int) (most:Nat):List (List Int):=(List.range (most+1)).map (exL L N to)
section
variable {L:List Lk} {N:Nat}
def Vm (x y:List Int) (l:Lk):(xg x y l).length=y.length:=by unfold xg; split<;>simp
def J0 (x:List Int):∀(M:List Lk) (y:List Int),(M.foldl (xg x) y).length=y.length
 |[],y=>rfl
 |l::M,y=>by rw[f5,J0 x M,Vm]
def ahq (x:List Int):(acd L N x).length=N:=by unfold acd; rw[J0]; simp
def aet (to:Int) (k:Nat):(exL L N to k).length=N:=by
 cases k with
 |zero=>simp[exL]
 |succ k=>exact ahq _
def Lim (B:Int) (x:List Int):Prop:=∀v:Int,gv x v≠ĭ→-B≤gv x v∧gv x v≤B
def gv_out {x:List Int} {v:Int} (h:¬v.toNat<x.length):gv x v=0:=by
 unfold gv;rw[List.getElem?_eq_none (by omega)];rfl
def ajs {B:Int} (hB:0≤B):Lim B (List.replicate N ĭ):=by
 intro v hv
 by_cases h:v.toNat<N
 ·exfalso; apply hv;unfold gv;rw[List.getElem?_replicate,if_pos h];rfl
 ·rw[gv_out (by simpa using h)]; omega
def ajr {B:Int} {y:List Int} (hy:Lim B y) {u:Int} (hu:0≤u) (hl:u.toNat<y.length) {a:Int} (ha:a≠ĭ→-B≤a∧a≤B):Lim B (y.set u.toNat a):=by
 intro v hv
 by_cases h:v.toNat=u.toNat
 ·have:gv (y.set u.toNat a) v=a:=by
   unfold gv;rw[h,List.getElem?_set_self hl];rfl
  rw[this] at hv ⊢;exact ha hv
 ·have:gv (y.set u.toNat a) v=gv y v:=by
   unfold gv;rw[List.getElem?_set_ne (fun e=>h e.symm)]
  rw[this] at hv ⊢;exact hy v hv
def al0 (hS:ĺ L N) {B:Int} (hB:0≤B) (hB2:B≤1000000000000000000) {x y:List Int} (hx:Lim B x) (hy:Lim (B+4503599627370496) y) (hl:y.length=N) {l:Lk} (hm:l∈L):Lim (B+4503599627370496) (xg x y l):=by
 unfold xg
 split
 ·exact hy
 ·rename_i hf;have h1:=hS.inr l hm;have h2:=hS.most l hm;have h3:=hx _ hf;refine ajr hy h1.1.1 (by omega) fun ha=>?_
  by_cases h4:gv y l.1=ĭ
  ·rw[h4] at ha ⊢
   have:min ĭ (l.2.2+gv x l.2.1)=l.2.2+gv x l.2.1:=by unfold ĭ; omega
   rw[this]; omega
  ·have:=hy _ h4;omega
def afP (hS:ĺ L N) {B:Int} (hB:0≤B) (hB2:B≤1000000000000000000) {x:List Int} (hx:Lim B x):∀(M:List Lk),(∀l∈M,l∈L)→∀y:List Int,y.length=N→Lim (B+4503599627370496) y→Lim (B+4503599627370496) (M.foldl (xg x) y)
 |[],_,y,_,hy=>hy
 |l::M,hM,y,hl,hy=>by
  rw[f5];exact afP hS hB hB2 hx M (fun m hm=>hM m (by simp[hm])) _ (by rw[Vm,hl]) (al0 hS hB hB2 hx hy hl (hM l (by simp)))
def aeh (hS:ĺ L N) {to:Int} (ht:0≤to∧to<N):∀k:Nat,k≤200→Lim (k*4503599627370496) (exL L N to k)
 |0,_=>by
  unfold exL;exact ajr (ajs (by omega)) ht.1 (by simp; omega) (fun _=>by omega)
 |k+1,hk=>by
  have:=afP hS (B:=k*4503599627370496) (by omega) (by omega) (aeh hS ht k (by omega)) L (fun _ h=>h) (List.replicate N ĭ) (by simp) (ajs (by omega));unfold exL acd
  have e:(((k+1:Nat):Int)*4503599627370496)=(k:Int)*4503599627370496+4503599627370496:=by push_cast; omega
  rw[e];exact this
def ab9 {ρ:Type} (hN:N≤1000) (K:List Int→Option ρ) {f:Int×List Int→(Int×List Int→Option ρ)→Option ρ}
 (hf:∀(v:Int×List Int) kk,f v kk=Aj (N:Int) v.1 v.2 (fun u34 u35=>kk (u34,u35)) K):Ñ f ((0:Int),List.replicate N (0:Int))=K (List.replicate N ĭ):=by
 refine ñ (List.replicate N (0:Int)) (fun i=>List.replicate i ĭ++List.replicate (N-i) (0:Int)) _ (by simp) (fun i a hi ha kn=>?_) (fun kn=>?_)
 ·rw[hf];dsimp only;unfold Aj;rw[List.length_replicate] at hi
  have hlen:(List.replicate i ĭ++List.replicate (N-i) (0:Int)).length=N:=by simp; omega
  have e1:ilt (i:Int) (N:Int)=true:=decide_eq_true (by omega);rw[Õ e1,show ą (List.replicate i ĭ++List.replicate (N-i) (0:Int))=(N:Int) by unfold ą; rw[hlen],Ĩ (by omega) (by omega),jH (by rw[hlen]; omega),Ó (by omega) (by omega)];congr 2;rw[Int.toNat_natCast];rw[List.set_append_right _ _ (by simp),List.length_replicate,Nat.sub_self];rw[show N-i=(N-(i+1))+1 by omega,List.replicate_succ,List.set_cons_zero,List.replicate_succ'];simp
 ·rw[hf];dsimp only;unfold Aj;rw[List.length_replicate];have e1:ilt (N:Int) (N:Int)=false:=decide_eq_false (by omega);rw[Ò e1];simp
def okN (hN:N≤1000) {ρ:Type} (x:Option ρ):ì ((ile (0:Int) (N:Int))&&(ê (Int.toNat (N:Int)))) x=x:=by
 rw[ħ];rw[di,Ö (by omega),gJ];exact decide_eq_true (by omega)
def ajq {ρ:Type} (hS:ĺ L N) {B:Int} (hB:0≤B) (hB2:B≤1000000000000000000) {x:List Int} (hx:Lim B x) (hxl:x.length=N) (K:List Int→Option ρ) :
 Ñ (fun(v20:(Val (.pair tI (.slice tI)))) kk23=>Gk x L (Þ L) v20.1 v20.2 (fun u21 u22=>kk23 (u21,u22)) K) ((0:Int),List.replicate N ĭ)=K (acd L N x):=by
 have hl3:=hS.len;refine ñ L (fun i=>(L.take i).foldl (xg x) (List.replicate N ĭ)) _ rfl (fun i l hi hl kn=>?_) (fun kn=>?_)
 ·try dsimp only
  unfold Gk;have hm:=List.mem_of_getElem? hl;have h1:=hS.inr l hm;have h2:=hS.most l hm;rw[Ô hi,Ë hl,sH h1.2.1 (by omega),take_succ hl,List.foldl_append,Î hi (by omega)]
  have hlen:((L.take i).foldl (xg x) (List.replicate N ĭ)).length=N:=by rw[J0]; simp
  generalize (L.take i).foldl (xg x) (List.replicate N ĭ)=y at hlen ⊢
  by_cases hf:gv x l.2.1=ĭ
  ·rw[Ò (by rw[hf]; rfl)];simp only[List.foldl_cons,List.foldl_nil];unfold xg;rw[if_pos hf]
  ·have h3:=hx _ hf;rw[Õ (bne_iff_ne.2 hf),show ą y=(N:Int) by unfold ą; rw[hlen],Ĩ h1.1.1 h1.1.2,jH (by omega),sH h1.2.1 (by omega),Ó (by omega) (by omega),Ĩ h1.1.1 h1.1.2,jH (by omega),Î hi (by omega)];simp only[List.foldl_cons,List.foldl_nil];unfold xg;rw[if_neg hf,vV]
 ·try dsimp only
  unfold Gk;rw[à,List.take_length];rfl
def amk {ρ:Type}:@XC ρ=@Aj ρ:=rfl
def kK (to:Int) (m:Nat):(oy L N to m).length=m+1:=by simp[oy]
def JZ {to:Int} {m k:Nat} (hk:k≤m):(oy L N to m)[k]?=some (exL L N to k):=by
 unfold oy;rw[List.getElem?_map,List.getElem?_range (by omega)];rfl
def amj (hS:ĺ L N) {to:Int} (ht:0≤to∧to<N) {most:Nat} (hm:most≤100):zD ((N:Int),L) to (most:Int)=some (oy L N to most):=by
 have hN:=hS.n60
 unfold zD PU
 dsimp only;rw[okN (by omega),Int.toNat_natCast];refine(ab9 (by omega) _ (fun v kk=>by rw[é,List.length_replicate])).trans ?_;rw[show ą (List.replicate N ĭ)=(N:Int) by simp[ą],Ĩ ht.1 ht.2,jH (by simp; omega)];refine ñ (List.replicate most ()) (fun i=>oy L N to i) _ (by simp[oy,exL]) (fun i a hi ha kn=>?_) (fun kn=>?_)
 ·try dsimp only
  unfold Nn;rw[List.length_replicate] at hi;have e1:ilt (i:Int) (most:Int)=true:=decide_eq_true (by omega);rw[Õ e1,é,kK]
  have e2:(((i+1:Nat):Int)-1)=(i:Int):=by omega
  rw[e2,Ó (by omega) (by omega),show ą (oy L N to i)=((i+1:Nat):Int) by unfold ą; rw[kK],Ĩ (by omega) (by omega),Int.toNat_natCast,oD (JZ (Nat.le_refl i)),okN (by omega),Int.toNat_natCast];rw[amk];refine(ab9 (by omega) _ (fun v kk=>by rw[é,List.length_replicate])).trans ?_;refine(ajq hS (B:=i*4503599627370496) (by omega) (by omega) (aeh hS ht i (by omega)) (aet _ _) _).trans ?_;rw[ħ (Ö (by simp only[kK,List.length_singleton]; omega)),Ó (by omega) (by omega)];congr 2;unfold oy;rw[List.range_succ (n:=i+1),List.map_append];rfl
 ·try dsimp only
  unfold Nn;rw[List.length_replicate];have e1:ilt (most:Int) (most:Int)=false:=decide_eq_false (by omega);rw[Ò e1]
def Se (L:List Lk) (x:List Int) (good:Int→Bool) (u sum:Int):Option Nat:=L.findIdx? fun l=>l.1==u&&(decide (gv x l.2.1≠ĭ)&&good (sum+l.2.2+gv x l.2.1))
def sJ (L:List Lk) (rest:Nat→List Int) (good:Int→Bool):Nat→Int→Int→List Int→List Int
 |0,_,_,out=>out
 |k+1,u,sum,out=>match Se L (rest k) good u sum with
  |some i=>sJ L rest good k (L[i]?.getD (0,0,0)).2.1 (sum+(L[i]?.getD (0,0,0)).2.2) (out++[(i:Int)])
  |none=>sJ L rest good k u sum out
def folL {ρ:Type} (good:Int→Bool) (c0:Int) (c1:List (List Int)) (c2:List Lk) (c3:Int) (v0:Int) (v1:Int) (v2:Int) (v3:List Int) (kn:Int→Int→Int→List Int→Option ρ) (k0:Int×Int×List Int→Option ρ):Option ρ :=
 ifb (ilt v2 c3) (ü c2 v2 fun e7=>ifb (ieq e7.1 v0) (ck (c0-(1:Int)) fun n8=>ü c1 n8 fun e9=>ü e9 e7.2.1 fun e10=>ifb (ine e10 (1152921504606846976:Int)) (ck (v1+e7.2.2) fun n11=>ck (c0-(1:Int)) fun n12=>ü c1 n12 fun e13=>ü e13 e7.2.1 fun e14=>ck (n11+e14) fun n15=>ifb (good n15) (ì (ê ((List.length v3)+(List.length ([v2])))) (ck (v1+e7.2.2) fun n16=>k0 (e7.2.1,n16,(v3++([v2]))))) (ck (v2+(1:Int)) fun n17=>kn v0 v1 n17 v3)) (ck (v2+(1:Int)) fun n18=>kn v0 v1 n18 v3)) (ck (v2+(1:Int)) fun n19=>kn v0 v1 n19 v3)) (k0 (v0,v1,v3))
def an9 {ρ:Type} (hS:ĺ L N) (good:Int→Bool) {rest:List (List Int)} {k:Nat} {x:List Int} (hr:rest[k]?=some x) (hk:k≤100) (hx:Lim 1000000000000000000 x) (hxl:x.length=N) {u sum:Int} (hs : -1000000000000000000≤sum∧sum≤1000000000000000000) {out:List Int} (ho:out.length≤1000)
 (K:Int×Int×List Int→Option ρ):Ñ (fun(v:Int×Int×Int×List Int) kk=>folL good ((k+1:Nat):Int) rest L (Þ L) v.1 v.2.1 v.2.2.1 v.2.2.2 (fun a b c d=>kk (a,b,c,d)) K) (u,sum,(0:Int),out) =
  match Se L x good u sum with|some i=>K ((L[i]?.getD (0,0,0)).2.1,sum+(L[i]?.getD (0,0,0)).2.2,out++[(i:Int)])|none=>K (u,sum,out):=by
 have hl3:=hS.len;refine ī (fun v=>∃i:Nat,i≤L.length∧v=(u,sum,(i:Int),out)∧∀j l,j<i→L[j]?=some l→(l.1==u&&(decide (gv x l.2.1≠ĭ)&&good (sum+l.2.2+gv x l.2.1)))=false) (fun v=>L.length-v.2.2.1.toNat) ?_ ⟨0,by omega,rfl,fun j l h=>by omega⟩;rintro v ⟨i,hi,rfl,hp⟩
 have e0:(((k+1:Nat):Int)-1)=(k:Int):=by omega
 rcases du i L.length with h2|h2
 ·have hl:L[i]?=some L[i]:=cN h2;generalize L[i]=l at hl;have hm:=cY hl;have h1:=hS.inr l hm;have h4:=hS.most l hm
  have hstep:(l.1==u&&(decide (gv x l.2.1≠ĭ)&&good (sum+l.2.2+gv x l.2.1)))=false→∃y,(∃i:Nat,i≤L.length∧y=(u,sum,(i:Int),out)∧∀j l,j<i→L[j]?=some l→(l.1==u&&(decide (gv x l.2.1≠ĭ)&&good (sum+l.2.2+gv x l.2.1)))=false)∧(L.length-y.2.2.1.toNat<L.length-((u,sum,(i:Int),out):Int×Int×Int×List Int).2.2.1.toNat)∧y=(u,sum,(i:Int)+1,out):=fun hf =>
   ⟨_,⟨i+1,h2,by rw[show((i+1:Nat):Int)=(i:Int)+1 by push_cast; rfl],fun j m hj hm=>by
    rcases Nat.lt_succ_iff_lt_or_eq.1 hj with h|rfl
    ·exact hp j m h hm
    ·rw[hl] at hm; cases hm; exact hf⟩,by simp; omega,rfl⟩
  by_cases hf:(l.1==u&&(decide (gv x l.2.1≠ĭ)&&good (sum+l.2.2+gv x l.2.1)))=true
  ·refine .inl fun kn=>?_
   have hfi:Se L x good u sum=some i:=by
    unfold Se;rw[List.findIdx?_eq_some_iff_getElem];obtain⟨hh,rfl⟩:=List.getElem?_eq_some_iff.1 hl;exact⟨h2,hf,fun j hj=>by have:=hp j _ hj (List.getElem?_eq_getElem (by omega)); rw[this]; simp⟩
   rw[hfi];simp only[Bool.and_eq_true,beq_iff_eq,decide_eq_true_eq] at hf;have h5:=hx _ hf.2.1;dsimp only;unfold folL
   rw[Ô h2,Ë hl,Õ (by simp[hf.1]),e0,Ó (by omega) (by omega),Ë hr,sH h1.2.1 (by omega),Õ (bne_iff_ne.2 hf.2.1),Ó (by omega) (by omega),Ó (by omega) (by omega),Ë hr,sH h1.2.1 (by omega),Ó (by omega) (by omega),Õ hf.2.2,
    ħ (Ö (by simp; omega)),Ó (by omega) (by omega),hl]
   rfl
  ·have hf':=Bool.not_eq_true _▸hf;obtain⟨y,hy1,hy2,rfl⟩:=hstep hf';refine .inr ⟨_,hy1,hy2,fun kn=>?_⟩;dsimp only;unfold folL;rw[Ô h2,Ë hl,Î h2 (by omega)]
   by_cases g1:l.1=u
   ·rw[Õ (by simp[g1]),e0,Ó (by omega) (by omega),Ë hr,sH h1.2.1 (by omega)]
    by_cases g2:gv x l.2.1=ĭ
    ·rw[Ò (by rw[g2]; rfl)]
    ·have h5:=hx _ g2
     have g3:good (sum+l.2.2+gv x l.2.1)=false:=by simpa[g1,g2] using hf'
     rw[Õ (bne_iff_ne.2 g2),Ó (by omega) (by omega),Ó (by omega) (by omega),Ë hr,sH h1.2.1 (by omega),Ó (by omega) (by omega),Ò g3]
   ·rw[Ò (by simpa using g1)]
 ·refine .inl fun kn=>?_
  obtain rfl:i=L.length:=by omega
  have hfi:Se L x good u sum=none:=by
   unfold Se;rw[List.findIdx?_eq_none_iff];intro l hl;obtain⟨j,hj,rfl⟩:=List.mem_iff_getElem.1 hl;exact hp j _ hj (List.getElem?_eq_getElem hj)
  rw[hfi];dsimp only;unfold folL;rw[à]
def an8 {ρ:Type} (good:Int→Bool) (c0:List (List Int)) (c6:List Lk) (v0:Int) (v1:Int) (v2:Int) (v3:List Int) (kn:Int→Int→Int→List Int→Option ρ) (k0:List Int→Option ρ):Option ρ :=
 ifb (igt v1 (0:Int)) (Ñ (fun(v22:Int×Int×Int×List Int) kk27=>folL good v1 c0 c6 (Þ c6) v22.1 v22.2.1 v22.2.2.1 v22.2.2.2 (fun u23 u24 u25 u26=>kk27 (u23,u24,u25,u26)) (fun z20=>ck (v1-(1:Int)) fun n21=>kn z20.1 n21 z20.2.1 z20.2.2)) (v0,v2,(0:Int),v3)) (k0 v3)
def amC {ρ:Type} (c0:List (List Int)) (c4:Int) (c6:List Lk):@rB ρ c0 c4 c6=an8 (fun n=>ieq n c4) c0 c6:=rfl
def an7 {ρ:Type} (hS:ĺ L N) (good:Int→Bool) {rest:List (List Int)} {R:Nat→List Int} {k0:Nat} (hk:k0≤100) (hr:∀k,k<k0→rest[k]?=some (R k)) (hx:∀k,k<k0→Lim 900000000000000000 (R k)∧(R k).length=N) (u:Int) (K:List Int→Option ρ) :
 Ñ (fun(v:Int×Int×Int×List Int) kk=>an8 good rest L v.1 v.2.1 v.2.2.1 v.2.2.2 (fun a b c d=>kk (a,b,c,d)) K) (u,(k0:Int),(0:Int),[])=K (sJ L R good k0 u 0 []):=by
 have key:=tW (f:=fun(v:Int×Int×Int×List Int) kk=>an8 good rest L v.1 v.2.1 v.2.2.1 v.2.2.2 (fun a b c d=>kk (a,b,c,d)) K) (F:=fun v=>K (sJ L R good v.2.1.toNat v.1 v.2.2.1 v.2.2.2))
  (fun v=>∃k:Nat,v.2.1=k∧k≤k0∧(-(((k0-k:Nat):Int)*4503599627370496)≤v.2.2.1∧v.2.2.1≤((k0-k:Nat):Int)*4503599627370496)∧v.2.2.2.length≤k0-k) (fun v=>v.2.1.toNat) (fun v hv kn hk=>?_) (x:=(u,(k0:Int),0,[])) ⟨k0,rfl,cO _,by simp,by simp⟩
 ·rw[key]; simp
 ·obtain⟨u,k',sum,out⟩:=v;obtain⟨k,e,h1,h2,h3⟩:=hv;dsimp only at e h2 h3 hk ⊢;subst e;rw[Int.toNat_natCast] at hk ⊢;unfold an8
  cases k with
  |zero =>
   rw[Ò (by rfl)];rfl
  |succ k =>
   rw[Õ (decide_eq_true (by omega))];have hh:=hx k (by omega)
   have hlim:Lim 1000000000000000000 (R k):=fun v hv=>by have:=hh.1 v hv; omega
   refine(an9 hS good (hr k (by omega)) (by omega) hlim hh.2 (by omega) (by omega) _).trans ?_;unfold sJ
   have e0:(((k+1:Nat):Int)-1)=(k:Int):=by omega
   cases hn:Se L (R k) good u sum with
   |none =>
    dsimp only;rw[e0,Ó (by omega) (by omega),hk _ ⟨k,rfl,by omega,by dsimp only; omega,by dsimp only; omega⟩ (by simp)];simp
   |some i =>
    have hi:i<L.length:=by
     unfold Se at hn;exact(List.findIdx?_eq_some_iff_getElem.1 hn).1
    have hl:L[i]?=some L[i]:=List.getElem?_eq_getElem hi;have h4:=hS.most L[i] (List.getElem_mem _);dsimp only;rw[hl];simp only[Option.getD_some];rw[e0,Ó (by omega) (by omega),hk _ ⟨k,rfl,by omega,by dsimp only; omega,by simp; omega⟩ (by simp)];simp
def RU (L:List Lk) (N:Nat) (u v:Int):List Int×Int :=
 if (ip L N u v).2≠0 then([],(ip L N u v).2) else
 match (oy L N v N).findIdx? (fun x=>gv x u==(ip L N u v).1) with
 |some k=>(sJ L (exL L N v) (fun n=>ieq n (ip L N u v).1) k u 0 [],0)
 |none=>([],0)
def agB (hS:ĺ L N) {u v:Int} (hu:0≤u∧u<N) (hv:0≤v∧v<N):zF ((N:Int),L) u v=some (RU L N u v):=by
 have hN:=hS.n60;unfold zF P8 RU;rw[NF hS hu hv,À]
 by_cases h:(ip L N u v).2=0
 ·rw[Ò (by rw[h]; rfl),if_neg (by simp[h]),amj hS hv (by omega),À];rw[amC]
  let k0:Int→Option (List Int×Int):=fun j=>Ñ (fun(v29:Int×Int×Int×List Int) kk34=>an8 (fun n=>ieq n (ip L N u v).1) (oy L N v N) L v29.1 v29.2.1 v29.2.2.1 v29.2.2.2 (fun u30 u31 u32 u33=>kk34 (u30,u31,u32,u33)) (fun z28=>some ((z28,(0:Int)):List Int×Int))) (u,j,(0:Int),[])
  refine(ic (oy L N v N) (fun x=>gv x u==(ip L N u v).1) k0 (k0 (-1)) (fun i x hi hx kn=>?_) (fun kn=>?_)).trans ?_
  rotate_left
  ·try dsimp only
   unfold rC;rw[à]
  ·have hex:∀k,k<N+1→(oy L N v N)[k]?=some (exL L N v k):=fun k hk=>JZ (by omega)
   have hlim:∀k,k<N+1→Lim 900000000000000000 (exL L N v k)∧(exL L N v k).length=N:=fun k hk=>⟨fun w hw=>by
    have:=aeh hS hv k (by omega) w hw; omega,aet _ _⟩
   cases hf:(oy L N v N).findIdx? (fun x=>gv x u==(ip L N u v).1) with
   |none =>
    have:=tW (f:=fun(v29:Int×Int×Int×List Int) kk34=>an8 (fun n=>ieq n (ip L N u v).1) (oy L N v N) L v29.1 v29.2.1 v29.2.2.1 v29.2.2.2 (fun u30 u31 u32 u33=>kk34 (u30,u31,u32,u33)) (fun z28=>some ((z28,(0:Int)):List Int×Int))) (F:=fun _=>some (([],0):List Int×Int)) (fun v=>v.2.1 = -1∧v.2.2.2=[]) (fun _=>0) (fun x hx kn hk=>by
     unfold an8;rw[hx.1,hx.2]
     rfl) (x:=(u,(-1:Int),(0:Int),[])) ⟨rfl,rfl⟩
    exact this
   |some k =>
    have hk:=(dM.1 hf).1;rw[kK] at hk;exact an7 hS _ (R:=exL L N v) (by omega) (fun j hj=>hex j (by omega)) (fun j hj=>hlim j (by omega)) u (fun z=>some ((z,(0:Int)):List Int×Int))
  ·try dsimp only
   unfold rC
   have hxl:x.length=N:=by
    have hi':=hi;rw[kK] at hi';rw[JZ (by omega)] at hx;cases hx;exact aet _ _
   rw[kK] at hi;rw[é,kK,Õ (decide_eq_true (by omega)),Ë hx,sH hu.1 (by omega),Ó (by omega) (by omega),Ĕ]
 ·rw[Õ (bne_iff_ne.2 h),if_pos h]
end
def aim (f:Int→Int→Int) (z:Int) (l:List Int) (d:Int):Int:=match l with|[]=>z|x::_=>f x d
def HJ (f:Int→Int→Int) (z:Int) (c:Cmp):Int:=aim f z (å c.2.2.1 c.2.2.2.1) c.2.1-aim f z (å c.2.2.2.1 c.2.2.1) c.2.1
structure aoG (b:ß) (f:Int→Int→Int) (z:Int) (g:î):Prop where
 hi:f g.1 g.2.1≤z+(g.2.2.1+g.2.2.2.1.2)
 lo:z+(g.2.2.1+g.2.2.2.1.1)≤f g.1 g.2.1
 down:∀d e,g.2.1≤d→d≤e→f g.1 e≤f g.1 d
 loss:∀d e,g.2.1≤d→d≤e→f g.1 d≤f g.1 e+iT b g d e
structure acX (b:ß) (f:Int→Int→Int) (z:Int):Prop where
 gauge:∀g∈b.2.1,aoG b f z g
 cmp:∀c∈b.2.2.2.2.1,(Ŗ b c).1≤HJ f z c∧HJ f z c≤(Ŗ b c).2
def aca {b:ß} (h:Ď b) {p:Int→Int} (hg:∀g∈b.2.1,qB b p g):∃f:Int→Int→Int,(∀g∈b.2.1,aoG b f (p 0) g)∧∀g∈b.2.1,∀d∈Û b g,f g.1 d=p (Ι b g.1 d):=by
 let f:Int→Int→Int:=fun id d=>match Ů b id with|some g=>fill b p g d|none=>0
 have hfv:∀g∈b.2.1,∀d,f g.1 d=fill b p g d:=fun g hgm d=>by
  show(match Ů b g.1 with|some g=>fill b p g d|none=>0)=_;rw[vZ h.ids hgm]
 refine⟨f,fun g hgm=>?_,fun g hgm d hd=>by rw[hfv g hgm]; exact Nt h hgm (hg g hgm) hd⟩;have gf:=hg g hgm
 have e0:f g.1 g.2.1=p (Ι b g.1 g.2.1):=by rw[hfv g hgm]; exact Nt h hgm gf (ka g)
 refine⟨by rw[e0]; exact gf.hi,by rw[e0]; exact gf.lo,fun d e h0 hde=>?_,fun d e h0 hde=>?_⟩
 ·rw[hfv g hgm,hfv g hgm];exact(Ho h hgm gf h0 hde).1
 ·rw[hfv g hgm,hfv g hgm];exact(Ho h hgm gf h0 hde).2
def Zs {b:ß} {f:Int→Int→Int} {p:Int→Int} (hm:∀g∈b.2.1,∀d∈Û b g,f g.1 d=p (Ι b g.1 d)) {l:List Int} {day:Int} (hl:∀x∈l,∃g∈b.2.1,g.1=x∧day∈Û b g):p (M4 b l day)=aim f (p 0) l day:=by
 cases l with
 |nil=>rfl
 |cons x t =>
  obtain⟨g,q1,rfl,q3⟩:=hl x (by simp);exact(hm g q1 day q3).symm
def Rg {b:ß} {f:Int→Int→Int} {p:Int→Int} (hm:∀g∈b.2.1,∀d∈Û b g,f g.1 d=p (Ι b g.1 d)) {c:Cmp}
 (hl:∀x,x∈å c.2.2.1 c.2.2.2.1∨x∈å c.2.2.2.1 c.2.2.1→∃g∈b.2.1,g.1=x∧c.2.1∈Û b g):p (cx b c)-p (cy b c)=HJ f (p 0) c:=by
 unfold HJ;rw[J5,J4,Zs hm (fun x hx=>hl x (.inl hx)),Zs hm (fun x hx=>hl x (.inr hx))]
def Ui {b:ß} (h:Ď b) (f:Int→Int→Int) (z:Int) {l:List Int} {day:Int} (hl:∀x∈l,∃g∈b.2.1,g.1=x∧day∈Û b g):Uj b f z (M4 b l day)=aim f z l day:=by
 rw[Kc h f z hl];unfold aim
 cases l<;>rfl
def NW {b:ß} (h:Ď b) {f:Int→Int→Int} {z:Int} {c:Cmp} (hl:∀x,x∈å c.2.2.1 c.2.2.2.1∨x∈å c.2.2.2.1 c.2.2.1→∃g∈b.2.1,g.1=x∧c.2.1∈Û b g):Uj b f z (cx b c)-Uj b f z (cy b c)=HJ f z c:=by
 unfold HJ;rw[J5,J4,Ui h f z (fun x hx=>hl x (.inl hx)),Ui h f z (fun x hx=>hl x (.inr hx))]
def Uh {b:ß} (h:Ď b) {f:Int→Int→Int} {z:Int} {g:î} (hg:g∈b.2.1) (hh:aoG b f z g):qB b (Uj b f z) g:=by
 have q:∀d∈Û b g,Uj b f z (Ι b g.1 d)=f g.1 d:=fun d hd=>El h f z hg hd;have e0:=q g.2.1 (ka g);refine⟨?_,?_,fun d e hd he hde=>?_,fun d e hd he hde=>?_⟩
 ·rw[e0,pH]; exact hh.hi
 ·rw[e0,pH]; exact hh.lo
 ·rw[q d hd,q e he]; exact hh.down d e (h.day hg hd).1 hde
 ·rw[q d hd,q e he]; exact hh.loss d e (h.day hg hd).1 hde
section
variable {b:ß} {c:Cmp}
def alJ (h:Ď b) {p:Int→Int} (hp:Pot (á b) p):∃f,acX b f (p 0)∧∀g∈b.2.1,∀d∈Û b g,f g.1 d=p (Ι b g.1 d):=by
 obtain⟨hg,hc⟩:=(V0 h).1 hp;obtain⟨f,hf,hm⟩:=aca h hg;refine⟨f,⟨hf,fun c hcm=>?_⟩,hm⟩;have:=Rg hm (c:=c) (fun x hx=>oR h hcm hx);have:=hc c hcm;omega
def amb (h:Ď b) {f:Int→Int→Int} {z:Int} (hh:acX b f z):Pot (á b) (Uj b f z):=by
 refine(V0 h).2 ⟨fun g hg=>Uh h hg (hh.gauge g hg),fun c hc=>?_⟩;have:=NW (f:=f) (z:=z) h (c:=c) (fun x hx=>oR h hc hx);have:=hh.cmp c hc;omega
def af6 (h:Ď b) {d:Cmp} (hd:d∈b.2.2.2.2.1):∀x,x∈å d.2.2.1 d.2.2.2.1∨x∈å d.2.2.2.1 d.2.2.1→∃g∈(Ø b c).2.1,g.1=x∧d.2.1∈Û (Ø b c) g:=by
 intro x hx;obtain⟨g,q1,q2,q3⟩:=oR h hd hx;exact⟨g,q1,q2,uE q3⟩
def ajD (h:Ď b) (h':Ď (Ø b c)) {p:Int→Int} (hp:Pot (â (Ø b c)) p):∃f,acX b f (p 0)∧p (cx (Ø b c) c)-p (cy (Ø b c) c)=HJ f (p 0) c:=by
 obtain⟨hg,hc⟩:=(Ns h').1 hp;obtain⟨f,hf,hm⟩:=aca h' hg;refine⟨f,⟨fun g hgm=>?_,fun d hd=>?_⟩,Rg hm fun x hx=>oR h' j5 hx⟩
 ·have:=hf g hgm;exact⟨this.hi,this.lo,this.down,this.loss⟩
 ·have:=Rg hm (c:=d) (af6 h hd);have:=hc d hd;omega
def ajC (h:Ď b) (h':Ď (Ø b c)) {f:Int→Int→Int} {z:Int} (hh:acX b f z):Pot (â (Ø b c)) (Uj (Ø b c) f z)∧Uj (Ø b c) f z (cx (Ø b c) c)-Uj (Ø b c) f z (cy (Ø b c) c)=HJ f z c:=by
 refine⟨(Ns h').2 ⟨fun g hg=>Uh h' hg ?_,fun d hd=>?_⟩,NW h' fun x hx=>oR h' j5 hx⟩
 ·have:=hh.gauge g hg;exact⟨this.hi,this.lo,this.down,this.loss⟩
 ·have:=NW (f:=f) (z:=z) h' (c:=d) (af6 h hd);have:=hh.cmp d hd;omega
def aab (h:Ď b):ě (á b) ((Ì b).length+1)=true↔∃f z,acX b f z:=by
 have:=h.sys.n60;rw[Ŏ h.sys.links (by omega)];constructor
 ·rintro⟨p,hp⟩;obtain⟨f,hf,_⟩:=alJ h hp;exact⟨f,_,hf⟩
 ·rintro⟨f,z,hh⟩;exact⟨_,amb h hh⟩
def d_max (h:Ď b) (h':Ď (Ø b c)) {f:Int→Int→Int} {z:Int} (hh:acX b f z):dLo b c≤HJ f z c∧HJ f z c≤dHi b c:=by
 have ho:ě (â (Ø b c)) ((Ì (Ø b c)).length+1)=true:=by rw[lG h h']; exact(aab h).2 ⟨f,z,hh⟩
 obtain⟨hp,hd⟩:=ajC h h' hh;have a1:=YA (Ş h') (ij h') ho (xi h') (xh h') hp;have a2:=YA (Ş h') (ij h') ho (xh h') (xi h') hp;unfold dLo dHi;omega
def d_all (h:Ď b) (h':Ď (Ø b c)) (ho:ě (á b) ((Ì b).length+1)=true) {t:Int} (h1:dLo b c≤t) (h2:t≤dHi b c):∃f z,acX b f z∧HJ f z c=t:=by
 rw[←lG h h'] at ho;obtain⟨p,hp,hd⟩:=aof (Ş h') (ij h') ho (xi h') (xh h') h1 h2;obtain⟨f,hf,he⟩:=ajD h h' hp;exact⟨f,_,hf,by rw[←he]; exact hd⟩
def aoi (h:Ď b) (h':Ď (Ø b c)) (ho:ě (á b) ((Ì b).length+1)=true):dLo b c≤dHi b c:=by
 rw[←lG h h'] at ho;exact acf (Ş h') (ij h') ho (xi h') (xh h')
structure Pred (b:ß) (c:Cmp) (s:Int×Int):Prop where
 good:Ď b
 good2:Ď (Ø b (Â c))
 order:TW b c≤sI b c
 has:∃f z,acX b f z
 ends:s.1-TW b c≤s.2-sI b c
 bd : -9007199254740992≤s.1-TW b c∧s.2-sI b c≤9007199254740992
 all:∀f z,acX b f z→s.1-TW b c≤HJ f z c∧HJ f z c≤s.2-sI b c
 each:∀t,s.1-TW b c≤t→t≤s.2-sI b c→∃f z,acX b f z∧HJ f z c=t
def Ku (hp:(û b c).2=0):Pred b c (û b c).1:=by
 obtain⟨h,h'⟩:=o9 hp;rw[D8 h h'] at hp ⊢
 by_cases ho:ě (á b) ((Ì b).length+1)=true
 ·rw[if_pos ho] at hp ⊢;obtain⟨h1,h2⟩:=ac6 hp;rw[h2];have e1:TW b (Â c)=TW b c:=rfl;have e2:sI b (Â c)=sI b c:=rfl;rw[e1,e2] at *
  have s1:dLo b (Â c)+TW b c-TW b c=dLo b (Â c):=by omega
  have s2:dHi b (Â c)+sI b c-sI b c=dHi b (Â c):=by omega
  refine⟨h,h',h1,(aab h).1 ho,?_,?_,fun f z hh=>?_,fun t t1 t2=>?_⟩
  ·simp only;rw[s1,s2];exact aoi h h' ho
  ·simp only;rw[s1,s2];rw[←lG h h'] at ho;have a1:=Vn (Ş h') (ij h') ho (xi h') (xh h');have a2:=Vn (Ş h') (ij h') ho (xh h') (xi h');unfold dLo dHi;omega
  ·simp only;rw[s1,s2];exact d_max (c:=Â c) h h' hh
  ·simp only at t1 t2;rw[s1] at t1;rw[s2] at t2;exact d_all (c:=Â c) h h' ho t1 t2
 ·rw[if_neg ho] at hp;simp at hp
end
theorem VM {b:ß} (h:Ď b):(Ŭ b).length=(á b).length:=by
 have g0:∀i,((b.2.1.take i).mapIdx (í b)).flatten.length=((b.2.1.take i).flatMap (ë b)).length:=by
  intro i
  induction i with
  |zero=>simp
  |succ i ih =>
   rcases du i b.2.1.length with hi|hi
   ·have hg:b.2.1[i]?=some b.2.1[i]:=List.getElem?_eq_getElem hi;rw[ζ _ hg,take_succ hg,List.flatMap_append,List.flatten_append,List.length_append,List.length_append,ih];congr 1;unfold í ë;simp only[List.flatMap_cons,List.flatMap_nil,List.append_nil,List.flatten_cons,List.flatten_nil,List.length_append];rw[Š _ _ (fun _=>rfl),Š _ _ (fun _=>rfl)];rfl
   ·rw[dV (by omega)] at ih ⊢;exact ih
 have c0:=Vy (b:=b) b.2.2.2.2.1.length (Nat.le_refl _);have g1:=g0 b.2.1.length;rw[List.take_length] at c0 g1;unfold Ŭ á;rw[List.length_append,List.length_append,g1,c0.1,c0.2]
theorem abX {b:ß}:∀s∈(b.2.1.mapIdx (í b)).flatten,(s.1=1∨s.1=2)∧0≤s.2∧s.2<b.2.1.length:=by
 intro s hs;obtain⟨l,hl,hm⟩:=List.mem_flatten.1 hs;obtain⟨i,hi,rfl⟩:=List.mem_iff_getElem.1 hl;rw[List.length_mapIdx] at hi;rw[List.getElem_mapIdx] at hm;unfold í at hm;rcases List.mem_append.1 hm with h|h
 ·simp at h; subst h; exact⟨.inl rfl,by dsimp only; omega,by dsimp only; omega⟩
 ·obtain⟨_,_,h⟩:=List.mem_flatMap.1 h;simp at h; subst h; exact⟨.inr rfl,by dsimp only; omega,by dsimp only; omega⟩
theorem ack {l:List Cmp}:∀s∈(l.mapIdx fun i (_:Cmp)=>[((3:Int),(i:Int)),((3:Int),(i:Int))]).flatten,s.1=3∧0≤s.2∧s.2<l.length:=by
 intro s hs;obtain⟨m,hl,hm⟩:=List.mem_flatten.1 hs;obtain⟨i,hi,rfl⟩:=List.mem_iff_getElem.1 hl;rw[List.length_mapIdx] at hi;rw[List.getElem_mapIdx] at hm;simp at hm; subst hm;exact⟨rfl,by dsimp only; omega,by dsimp only; omega⟩
theorem alU (b:ß) (c:Cmp):∃S:List (Int×Int),Ŭ (Ø b c)=S++[(3,(b.2.2.2.2.1.length:Int)),(3,(b.2.2.2.2.1.length:Int))]∧∀s∈S,¬(s.1=3∧s.2=(b.2.2.2.2.1.length:Int)):=by
 refine⟨((Ø b c).2.1.mapIdx (í (Ø b c))).flatten++(b.2.2.2.2.1.mapIdx fun i (_:Cmp)=>[((3:Int),(i:Int)),((3:Int),(i:Int))]).flatten,?_,fun s hs=>?_⟩
 ·unfold Ŭ;rw[show(Ø b c).2.2.2.2.1=b.2.2.2.2.1++[c] from rfl,List.mapIdx_append,List.flatten_append,List.append_assoc];simp
 ·rcases cW.1 hs with h|h
  ·have:=abX s h; omega
  ·have:=ack s h; omega
theorem JL (b:ß) (c:Cmp) (h:Ď (Ø b c)):á (Ø b c)=â (Ø b c)++[(cy (Ø b c) c,cx (Ø b c) c,(Ŗ (Ø b c) c).2),(cx (Ø b c) c,cy (Ø b c) c,-(Ŗ (Ø b c) c).1)]:=by
 rw[Yp];unfold á;rw[show(Ø b c).2.2.2.2.1=b.2.2.2.2.1++[c] from rfl,List.flatMap_append,List.append_assoc];simp[ï]
def aem (b:ß) (c:Cmp) (s t:Int):Int:=dst (â (Ø b c)) ((Ì (Ø b c)).length+1) s t
abbrev End:Type:=Int×Int×Int
abbrev uI:Type:=(Int×Int)×End×End
def endP (b:ß) (c:Cmp) (s t:Int):End :=
 (aem b c s t,aem b c s (cy (Ø b c) c)+(Ŗ b c).2+aem b c (cx (Ø b c) c) t,aem b c s (cx (Ø b c) c)-(Ŗ b c).1+aem b c (cy (Ø b c) c) t)
def worth0:uI:=((0,0),(0,0,0),(0,0,0))
def pB (b:ß) (n:Int×Int) (c:Cmp):uI :=
 ((û b c).1,endP b (Â c) 0 (vX (Ø b (Â c)) n.1 n.2),endP b (Â c) (vX (Ø b (Â c)) n.1 n.2) 0)
def Yl (b:ß) (n:Int×Int) (c:Cmp):uI×Int:=if (û b c).2≠0 then(worth0,(û b c).2) else(pB b n c,0)
theorem Kv {b:ß} {c:Cmp} (h:(û b c).2=0):ě (á b) ((Ì b).length+1)=true:=by
 obtain⟨g1,g2⟩:=o9 h;rw[D8 g1 g2] at h
 by_cases ho:ě (á b) ((Ì b).length+1)=true
 ·exact ho
 ·rw[if_neg ho] at h; cases h
section
variable {b:ß} {c:Cmp} (h:Ď b) (h':Ď (Ø b c)) (ho:ě (á b) ((Ì b).length+1)=true)
include h h' ho
theorem qf {s t:Int} (hs:0≤s∧s<((Ì (Ø b c)).length+1:Nat)) (ht:0≤t∧t<((Ì (Ø b c)).length+1:Nat)) : -9007199254740992≤aem b c s t∧aem b c s t≤9007199254740992 :=
 Vn (Ş h') (ij h') (by rw[lG h h']; exact ho) hs ht
theorem t7 (B:ß) {s t:Int} (hs:0≤s∧s<((Ì (Ø b c)).length+1:Nat)) (ht:0≤t∧t<((Ì (Ø b c)).length+1:Nat)):ĉ (B,(((Ì (Ø b c)).length:Int)+1,â (Ø b c))) t s=some (aem b c s t):=by
 rw[show(((Ì (Ø b c)).length:Int)+1)=(((Ì (Ø b c)).length+1:Nat):Int) by push_cast; rfl,acE (Ş h') ht hs,AY (Ş h') (ij h') hs ht,if_pos (by rw[lG h h']; exact ho)];rfl
theorem adf:(-4503599627370496≤(Ŗ b c).1∧(Ŗ b c).1≤4503599627370496)∧(-4503599627370496≤(Ŗ b c).2∧(Ŗ b c).2≤4503599627370496):=by
 have hs:=h'.sys;have e:=JL b c h';have m1:=hs.most (cy (Ø b c) c,cx (Ø b c) c,(Ŗ (Ø b c) c).2) (by rw[e]; simp);have m2:=hs.most (cx (Ø b c) c,cy (Ø b c) c,-(Ŗ (Ø b c) c).1) (by rw[e]; simp);have e2:Ŗ (Ø b c) c=Ŗ b c:=rfl;rw[e2] at m1 m2;dsimp only at m1 m2;omega
theorem af3 (B:ß) {s t:Int} (hs:0≤s∧s<((Ì (Ø b c)).length+1:Nat)) (ht:0≤t∧t<((Ì (Ø b c)).length+1:Nat)) :
 nQ t s (B,(((Ì (Ø b c)).length:Int)+1,â (Ø b c))) (cy (Ø b c) c) (Ŗ b c) (cx (Ø b c) c)=some (endP b c s t):=by
 have hx:=xi h';have hy:=xh h';have b1:=qf h h' ho hs ht;have b2:=qf h h' ho hs hy;have b3:=qf h h' ho hx ht;have b4:=qf h h' ho hs hx;have b5:=qf h h' ho hy ht;have b6:=adf h h' ho;unfold nQ yG;rw[t7 h h' ho B hs ht,À,t7 h h' ho B hs hy,À,Ó (by omega) (by omega),t7 h h' ho B hx ht,À,Ó (by omega) (by omega),t7 h h' ho B hs hx,À,Ó (by omega) (by omega),t7 h h' ho B hy ht,À,Ó (by omega) (by omega)];rfl
end
theorem ZG {B:ß} (h:Ď B) (hn:∀g∈B.2.1,I64 g.2.2.2.2.1.1) (s:Sys) (l:List Int) (c:Cmp):nR l (B,s) c=some (atP (Ì B) l c.2.1):=by
 unfold nR yH
 cases l with
 |nil=>rw[é]; rfl
 |cons x t =>
  rw[é,Ò (beq_eq_false_iff_ne.2 (by simp; omega)),show(0:Int)=((0:Nat):Int) from rfl,Ë (show(x::t)[0]?=some x from rfl),RG h hn,À];rfl
theorem ajJ {ρ:Type} {b:ß} {c:Cmp} (h:Ď (Ø b c)) (K:List Lk→Option ρ) :
 Ñ (fun(v17:Val Í) kk20=>lz (b.2.2.2.2.1.length:Int) (Ŭ (Ø b c)) (á (Ø b c)) (Þ (á (Ø b c))) v17.1 v17.2 (fun u18 u19=>kk20 (u18,u19)) K) ((0:Int),[])=K (â (Ø b c)):=by
 have hl3:=h.sys.len;have hsl:=VM h;obtain⟨S,hS,hSk⟩:=alU b c;have hL:=JL b c h
 have hSl:S.length=(â (Ø b c)).length:=by
  rw[hS,hL,cR,cR] at hsl;simpa using hsl
 generalize â (Ø b c)=H at hL hSl ⊢;rw[hS];generalize á (Ø b c)=L at hL hsl hl3 ⊢
 have hLl:L.length=H.length+2:=by rw[hL]; simp
 refine ñ L (fun i=>(L.take i).take H.length) _ (by simp) (fun i l hi hl kn=>?_) (fun kn=>?_)
 ·try dsimp only
  unfold lz;rw[Ô hi,Ë hl];rcases Nat.lt_or_ge i H.length with h1|h1
  ·have hs:(S++[((3:Int),(b.2.2.2.2.1.length:Int)),(3,(b.2.2.2.2.1.length:Int))])[i]?=some S[i]:=by
    rw[fB (by omega),cN]
   have hk:=hSk S[i] (fp _)
   have e:((Ŋ (S[i]).1 (3:Int))&&((Ŋ (S[i]).2 (b.2.2.2.2.1.length:Int))&&true))=false:=by
    simp[Ŋ]; omega
   have e1:(L.take i).take H.length=L.take i:=dV (by rw[dh]; omega);have e2:(L.take (i+1)).take H.length=L.take (i+1):=dV (by rw[dh]; omega);rw[Ë hs,e,Õ (by rfl),e1,e2,ħ (Ö (by rw[dh]; simp; omega)),Î hi (by omega),take_succ hl]
  ·have hs:(S++[((3:Int),(b.2.2.2.2.1.length:Int)),(3,(b.2.2.2.2.1.length:Int))])[i]?=some ((3:Int),(b.2.2.2.2.1.length:Int)):=by
    rw[fo (by omega)]
    have:i-S.length=0∨i-S.length=1:=by omega
    rcases this with e|e<;>rw[e]<;>rfl
   have e:((Ŋ (3:Int) (3:Int))&&((Ŋ (b.2.2.2.2.1.length:Int) (b.2.2.2.2.1.length:Int))&&true))=true:=by simp[Ŋ]
   have e1:(L.take i).take H.length=(L.take (i+1)).take H.length:=by
    rw[List.take_take,List.take_take];congr 1;omega
   rw[Ë hs];dsimp only;rw[e,Ò (by rfl),Î hi (by omega),e1]
 ·try dsimp only
  unfold lz;rw[à,List.take_length,hL];simp
theorem abP {B:ß} (hr:anw B) (n:Int×Int) {c:Cmp} (hA:c.2.2.1.length≤1000) (hB:c.2.2.2.1.length≤1000):ut (B,RW B) n c=some (Yl B n c):=by
 unfold ut I6 Yl;have hs:=hr.good.size;rw[show(B,RW B).1=B from rfl,ahV hs hr.num hA hB,À]
 by_cases hp:(û B c).2=0
 ·obtain⟨g1,g2⟩:=o9 hp;have ho:=Kv hp
  have e1:wx B (Â c)=(Ø B (Â c),0):=by
   unfold wx;rw[if_neg (by simp[(ð B).2 g1]),if_neg (by simp[(ð _).2 g2])]
  have hn2:∀g∈(Ø B (Â c)).2.1,I64 g.2.2.2.2.1.1:=hr.num;have hC:=g2.nC
  have hw:(((Ø B (Â c)).2.2.2.2.1.length:Int)-1)=(B.2.2.2.2.1.length:Int):=by simp[Ø]
  have hSays:amW (Ø B (Â c)) (B.2.2.2.2.1.length:Int)=(Ŗ B (Â c),0):=by
   have e:sQ (Ø B (Â c)) (B.2.2.2.2.1.length:Int)=(Â c,0):=by
    unfold sQ;rw[if_neg (by simp[(ð _).2 g2]),if_neg (by simp[Ø]; omega)];simp[Ø]
   unfold amW;rw[e,if_neg (by simp)];rfl
  have hCancel:RV c.2.2.1 c.2.2.2.1=(å c.2.2.1 c.2.2.2.1,å c.2.2.2.1 c.2.2.1,0):=by
   have hnu:=(Ũ _).1 (g2.nums (j5 (c:=Â c)));have h6:lU c.2.2.1=true∧lU c.2.2.2.1=true:=⟨hnu.2.2.2.2.2.1,hnu.2.2.2.2.2.2⟩;unfold RV;rw[h6.1,h6.2];rfl
  rw[Ò (by rw[hp]; rfl),if_neg (by simp[hp]),show oX B (c.1,c.2.1,c.2.2.1,c.2.2.2.1,(0:Int),c.2.2.2.2.2)=oX B (Â c) from rfl,akM hs hr.num (c:=Â c) hA hB,À,e1];dsimp only;rw[Ò (by rfl),é,hw,Ó (by omega) (by omega),aow (g2.inn hn2),À,hSays,acS (by omega) (by omega),À,hCancel,qA (g2.inn hn2),À,jq g2];dsimp only;refine(ajJ g2 _).trans ?_;have ex:cx (Ø B (Â c)) (Â c)=atP (Ì (Ø B (Â c))) (å c.2.2.1 c.2.2.2.1) c.2.1:=rfl;have ey:cy (Ø B (Â c)) (Â c)=atP (Ì (Ø B (Â c))) (å c.2.2.2.1 c.2.2.1) c.2.1:=rfl;rw[ZG g2 hn2,À,ZG g2 hn2,À,RG g2 hn2,À,←ex,←ey,af3 g1 g2 ho _ (iz _) (Κ _ n),À,af3 g1 g2 ho _ (Κ _ n) (iz _),À];rfl
 ·rw[Õ (bne_iff_ne.2 hp),if_pos hp];rfl
abbrev am7:Type:=ß×(Int×Int)×Bool×Int×List Int
def aj9:am7:=(kQ,(0,0),false,0,[])
def CN (L:List Lk):Int→Int→List Int→Int×Int×Bool
 |u,s,[]=>(u,s,true)
 |u,s,i::t=>if (L[i.toNat]?.getD (0,0,0)).1=u then CN L (L[i.toNat]?.getD (0,0,0)).2.1 (s+(L[i.toNat]?.getD (0,0,0)).2.2) t else(0,0,false)
def acG (L:List Lk) (i:Int):Bool:=decide (i<0)||decide ((L.length:Int)≤i)
def lF (L:List Lk) (l:List Int):Int:=if 80<l.length then 2 else if l.any (acG L) then 1 else 0
def Γ (L:List Lk) (u v:Int) (l:List Int):Int×Int :=
 if lF L l≠0 then(0,lF L l) else if (CN L u 0 l).2.2=true∧(CN L u 0 l).1=v then((CN L u 0 l).2.1,0) else(0,8)
def anq (u:Int) (w:Int×Int×Bool):Int:=if w.2.2=true∧w.1=u∧w.2.1<0 then 0 else 8
def wz (L:List Lk) (l:List Int):Int :=
 if lF L l≠0 then lF L l else match l with
 |[]=>8
 |i::_=>anq (L[i.toNat]?.getD (0,0,0)).1 (CN L (L[i.toNat]?.getD (0,0,0)).1 0 l)
section
variable {L:List Lk} {N:Nat}
def U9 (N:Int) (hL:L.length≤1000) (l:List Int):qr (N,L) l=some (lF L l):=by
 unfold qr DE lF;dsimp only;rw[é]
 by_cases h:80<l.length
 ·rw[Õ (decide_eq_true (by omega)),if_pos h]
 ·rw[Ò (decide_eq_false (by omega)),if_neg h,←é l];refine(ń l (acG L) (fun z=>ifb (ige z 0) (some 1) (some 0)) (some 1) (some 0) (fun j=>by rw[show ige (j:Int) 0=true from decide_eq_true (by omega)]; rfl) (fun i a hi ha kn=>?_) (fun kn=>?_)).trans ?_
  ·try dsimp only
   unfold mY acG;rw[Ô hi,Ë ha,Î hi (by omega),é,Ĕ,Ĕ]
   by_cases h1:a<0
   ·simp[ilt,h1]
   ·by_cases h2:(L.length:Int)≤a
    ·simp[ilt,ige,h1,h2]
    ·simp[ilt,ige,h1,h2]
  ·try dsimp only
   unfold mY;rw[à]
  ·cases l.any (acG L)<;>rfl
def ael {l:List Int} (h:lF L l=0):l.length≤80∧∀i∈l,0≤i∧i.toNat<L.length:=by
 unfold lF at h
 split at h
 ·omega
 ·rename_i h1
  split at h
  ·omega
  ·rename_i h2;refine⟨by omega,fun i hi=>?_⟩;have:=eP.1 (eE.2 h2) i hi;simp[acG] at this;omega
def ah9 (hS:ĺ L N) (u:Int) {l:List Int} (h:lF L l=0):HD ((N:Int),L) u l=some (CN L u 0 l):=by
 obtain⟨hl,hi⟩:=ael h;unfold HD XA;dsimp only
 have:=tW (f:=fun(v7:Int×Int×Int) kk11=>vw l (Þ l) L v7.1 v7.2.1 v7.2.2 (fun u8 u9 u10=>kk11 (u8,u9,u10)) (fun z5=>some (z5.1,z5.2.1,z5.2.2)) (fun z6=>some (z6.1,z6.2,true)))
  (F:=fun v=>some (CN L v.1 v.2.1 (l.drop v.2.2.toNat))) (fun v=>∃i:Nat,v.2.2=i∧i≤l.length∧(-(i*4503599627370496)≤v.2.1∧v.2.1≤i*4503599627370496)) (fun v=>l.length-v.2.2.toNat) (fun v hv kn hk=>?_) (x:=(u,(0:Int),(0:Int))) ⟨0,rfl,by omega,by simp⟩
 ·exact this
 ·obtain⟨w,s,n⟩:=v;obtain⟨i,e,h1,h2⟩:=hv;dsimp only at e h2 hk ⊢;subst e;rw[Int.toNat_natCast] at hk ⊢;unfold vw;rcases Nat.lt_or_ge i l.length with h3|h3
  ·have ha:l[i]?=some l[i]:=List.getElem?_eq_getElem h3;have hd:l.drop i=l[i]::l.drop (i+1):=List.drop_eq_getElem_cons h3;rw[hd];have hx:=hi l[i] (List.getElem_mem _);generalize l[i]=a at ha hx;have hg:L[a.toNat]?=some L[a.toNat]:=List.getElem?_eq_getElem hx.2;have hm:=hS.most _ (List.mem_of_getElem? hg);generalize L[a.toNat]=x at hg hm;rw[Ô h3,Ë ha,ii hx.1 hg];unfold CN;rw[hg];simp only[Option.getD_some]
   by_cases hc:x.1=w
   ·rw[Ò (by rw[hc]; exact bne_self_eq_false' _),if_pos hc,Ó (by omega) (by omega),Î h3 (by omega),hk _ ⟨i+1,by push_cast; rfl,h3,by dsimp only; push_cast; omega⟩ (by simp; omega)];simp
   ·rw[Õ (bne_iff_ne.2 hc),if_neg hc]
  ·obtain rfl:i=l.length:=by omega
   rw[à,List.drop_length];rfl
def aia (hS:ĺ L N):∀(l:List Int) (u s B:Int),-B≤s∧s≤B→-(B+l.length*4503599627370496)≤(CN L u s l).2.1∧(CN L u s l).2.1≤B+l.length*4503599627370496
 |[],u,s,B,h=>by simp[CN]; omega
 |i::t,u,s,B,h=>by
  unfold CN
  have hm : -4503599627370496≤(L[i.toNat]?.getD (0,0,0)).2.2∧(L[i.toNat]?.getD (0,0,0)).2.2≤4503599627370496:=by
   cases hg:L[i.toNat]? with
   |none=>simp
   |some x=>exact hS.most x (cY hg)
  split
  ·have:=aia hS t (L[i.toNat]?.getD (0,0,0)).2.1 (s+(L[i.toNat]?.getD (0,0,0)).2.2) (B+4503599627370496) (by omega);rw[dc];push_cast;omega
  ·dsimp only;omega
def H7 (hS:ĺ L N) {u v:Int} (hu:0≤u∧u<N) (hv:0≤v∧v<N) (l:List Int):jX ((N:Int),L) u v l=some (Γ L u v l):=by
 have hl3:=hS.len;unfold jX sr Γ
 have e1:(decide (0≤u)&&decide (u<(N:Int)))=true:=by simp[hu.1,hu.2]
 have e2:(decide (0≤v)&&decide (v<(N:Int)))=true:=by simp[hv.1,hv.2]
 rw[lS hS,À,Ò (by rfl),Od,À,e1,Ò (by rfl),Od,À,e2,Ò (by rfl),U9 _ (by omega),À]
 by_cases h:lF L l=0
 ·rw[Ò (by rw[h]; rfl),if_neg (by simp[h]),ah9 hS u h,À]
  cases h1:(CN L u 0 l).2.2 with
  |false=>rw[Õ (by rfl),if_neg (by simp)]
  |true =>
   rw[Ò (by rfl)]
   by_cases h2:(CN L u 0 l).1=v
   ·rw[Ò (by rw[h2]; exact bne_self_eq_false' _),if_pos ⟨rfl,h2⟩]
   ·rw[Õ (bne_iff_ne.2 h2),if_neg (fun h=>h2 h.2)]
 ·rw[Õ (bne_iff_ne.2 h),if_pos h]
def ajA {ρ α:Type} (x:α) (t:List α) (f:α→Option ρ):ü (x::t) (0:Int) f=f x:=rfl
def T6 (hS:ĺ L N) (l:List Int):m7 ((N:Int),L) l=some (wz L l):=by
 have hl3:=hS.len;unfold m7 sq wz;rw[lS hS,À,Ò (by rfl),U9 _ (by omega),À]
 by_cases h:lF L l=0
 ·rw[Ò (by rw[h]; rfl),if_neg (by simp[h])]
  cases l with
  |nil=>rw[é]; rfl
  |cons i t =>
   have hx:=(ael h).2 i (by simp);have hg:L[i.toNat]?=some L[i.toNat]:=List.getElem?_eq_getElem hx.2;generalize L[i.toNat]=x at hg;rw[é,Ò (beq_eq_false_iff_ne.2 (by simp; omega)),ajA,ii hx.1 hg,ah9 hS x.1 h,À];dsimp only;rw[hg];dsimp only[Option.getD_some];generalize CN L x.1 0 (i::t)=w;obtain⟨e,sum,ok⟩:=w;unfold anq;dsimp only
   cases ok with
   |false=>rw[Õ (by rfl),if_neg (by simp)]
   |true =>
    rw[Ò (by rfl)]
    by_cases h2:e=x.1
    ·rw[Ò (by rw[h2]; exact bne_self_eq_false' _)]
     by_cases h3:sum<0
     ·rw[Ò (decide_eq_false (by omega)),if_pos ⟨rfl,h2,h3⟩]
     ·rw[Õ (decide_eq_true (by omega)),if_neg (fun h=>h3 h.2.2)]
    ·rw[Õ (bne_iff_ne.2 h2),if_neg (fun h=>h2 h.2.1)]
 ·rw[Õ (bne_iff_ne.2 h),if_pos h]
end
def pz (c:am7):Int :=
 if ä c.1≠0 then ä c.1 else if vX c.1 c.2.1.1 c.2.1.2=0 then 5 else
 if c.2.2.1 then(if Γ (á c.1) 0 (vX c.1 c.2.1.1 c.2.1.2) c.2.2.2.2=(c.2.2.2.1,0) then 0 else 8)
 else(if Γ (á c.1) (vX c.1 c.2.1.1 c.2.1.2) 0 c.2.2.2.2=(-c.2.2.2.1,0) then 0 else 8)
def qC (c:am7):Int :=
 if ä c.1≠0 then ä c.1 else if c.2.1≠(0,0)∨c.2.2.1=true∨c.2.2.2.1≠0 then 1 else if wz (á c.1) c.2.2.2.2=0 then 0 else 8
def aeU (b:ß) (c:am7):Bool×Int :=
 if ä b≠0 then(false,ä b) else
 if c.2.1=(0,0) then(if qC c≠0 then(false,qC c) else(alN c.1 b,0)) else(if pz c≠0 then(false,pz c) else(alN c.1 b,0))
def wr_neg {n:Int} (h:I64 n):ae3 (0-n)=if n = -9223372036854775808 then n else -n:=by
 have e:ae3 (0-n)=if (0-n) % 18446744073709551616≥9223372036854775808 then(0-n) % 18446744073709551616-18446744073709551616 else(0-n) % 18446744073709551616:=by
  simp[ae3,IntKind.wrap,IntKind.bits,IntKind.signed]
 rw[e];unfold I64 at h
 split<;>split<;>omega
def LS {c:am7} (hI:In c.1) (hv:I64 c.2.2.2.1):lM c=some (pz c):=by
 unfold lM vt pz;rw[ja hI.size hI.num,À]
 by_cases hc:ä c.1=0
 ·have hg:=(ð c.1).1 hc;rw[Ò (by simp[ine,hc]),if_neg (show ¬(ä c.1≠0) from fun h=>h hc),RT hI,À,D9 hg,qA hI,À,jq hg];dsimp only
  by_cases h0:vX c.1 c.2.1.1 c.2.1.2=0
  ·rw[if_pos h0,if_pos h0]; rfl
  ·have hN:=hg.sys;have hr:=Κ c.1 c.2.1;have hz:=iz c.1;rw[if_neg h0,if_neg h0,Ò (by rfl),show(((Ì c.1).length:Int)+1)=(((Ì c.1).length+1:Nat):Int) by push_cast; rfl];dsimp only;rw[show(∀f:Int→Option Int,ck (0-c.2.2.2.1) f=f (ae3 (0-c.2.2.2.1))) from fun f=>rfl,wr_neg hv]
   have key:∀(u v:Int) (t t':Int),(t'=t∨(t' = -9223372036854775808∧t=9223372036854775808))→(ifb (ine (Γ (á c.1) u v c.2.2.2.2).2 0) (some (8:Int)) (ifb (ine (Γ (á c.1) u v c.2.2.2.2).1 t') (some 8) (some 0)))=some (if Γ (á c.1) u v c.2.2.2.2=(t,0) then 0 else 8):=by
    intro u v t t' ht
    have hb : -9000000000000000000≤(Γ (á c.1) u v c.2.2.2.2).1∧(Γ (á c.1) u v c.2.2.2.2).1≤9000000000000000000:=by
     unfold Γ
     split
     ·simp
     ·rename_i hi
      split
      ·have:=aia hN c.2.2.2.2 u 0 0 (by simp);have:=(ael (by simpa using hi)).1;dsimp only;omega
      ·simp
    generalize Γ (á c.1) u v c.2.2.2.2=p at hb ⊢
    by_cases h2:p.2=0
    ·rw[Ò (by rw[h2]; rfl)]
     by_cases h1:p.1=t'
     ·have:p=(t,0):=Prod.ext (by rcases ht with h|h<;>omega) h2
      rw[Ò (by rw[h1]; exact bne_self_eq_false' _),if_pos this]
     ·have:¬p=(t,0):=fun e=>by
       have e1:p.1=t:=by rw[e]
       rcases ht with h|h<;>omega
      rw[Õ (bne_iff_ne.2 h1),if_neg this]
    ·have:¬p=(t,0):=fun e=>h2 (by rw[e]);rw[Õ (bne_iff_ne.2 h2),if_neg this]
   unfold I64 at hv
   cases c.2.2.1 with
   |true =>
    rw[Ľ,H7 hN hz hr,À,key _ _ _ _ (.inl rfl)];rfl
   |false =>
    rw[ô,H7 hN hr hz,À,key _ _ (-c.2.2.2.1) _ (by split<;>omega)]
    rfl
 ·rw[Õ (by simp[ine,hc]),if_pos hc]
def Y5 {c:am7} (hI:In c.1):m6 c=some (qC c):=by
 unfold m6 sj qC;rw[ja hI.size hI.num,À]
 by_cases hc:ä c.1=0
 ·have hg:=(ð c.1).1 hc;rw[Ò (by simp[ine,hc]),if_neg (show ¬(ä c.1≠0) from fun h=>h hc)]
  by_cases h1:c.2.1=(0,0)
  ·have e1:(!((Ŋ c.2.1.1 0)&&((Ŋ c.2.1.2 0)&&true)))=false:=by rw[h1]; rfl
   rw[e1,ô]
   cases h2:c.2.2.1 with
   |true=>rw[Ľ,if_pos (.inr (.inl rfl))]
   |false =>
    rw[ô]
    by_cases h3:c.2.2.2.1=0
    ·rw[Ò (by rw[h3]; rfl),if_neg (by simp[h1,h3]),qA hI,À,jq hg,show(((Ì c.1).length:Int)+1)=(((Ì c.1).length+1:Nat):Int) by push_cast; rfl];dsimp only;rw[T6 hg.sys,À]
     by_cases h4:wz (á c.1) c.2.2.2.2=0
     ·rw[Ò (by rw[h4]; rfl),if_pos h4]
     ·rw[Õ (bne_iff_ne.2 h4),if_neg h4]
    ·rw[Õ (bne_iff_ne.2 h3),if_pos (.inr (.inr h3))]
  ·have e1:(!((Ŋ c.2.1.1 0)&&((Ŋ c.2.1.2 0)&&true)))=true:=by
    rw[Prod.ext_iff] at h1;simp[Ŋ];dsimp only at h1;omega
   rw[e1,Ľ,if_pos (.inl h1)]
 ·rw[Õ (by simp[ine,hc]),if_pos hc]
def akN {b:ß} {c:am7} (hb:In b) (hI:In c.1) (hv:I64 c.2.2.2.1):AE b c=some (aeU b c):=by
 unfold AE Jb aeU;rw[ja hb.size hb.num,À]
 by_cases hc:ä b=0
 ·rw[Ò (by simp[ine,hc]),if_neg (show ¬(ä b≠0) from fun h=>h hc)]
  by_cases h1:c.2.1=(0,0)
  ·have e1:((Ŋ c.2.1.1 0)&&((Ŋ c.2.1.2 0)&&true))=true:=by rw[h1]; rfl
   rw[e1,Ľ,if_pos h1,Y5 hI,À]
   by_cases h2:qC c=0
   ·rw[Ò (by rw[h2]; rfl),if_neg (by simp[h2]),part_ok hI.size hb.size,À]
   ·rw[Õ (bne_iff_ne.2 h2),if_pos h2]
  ·have e1:((Ŋ c.2.1.1 0)&&((Ŋ c.2.1.2 0)&&true))=false:=by
    rw[Prod.ext_iff] at h1;simp[Ŋ];dsimp only at h1;omega
   rw[e1,ô,if_neg h1,LS hI hv,À]
   by_cases h2:pz c=0
   ·rw[Ò (by rw[h2]; rfl),if_neg (by simp[h2]),part_ok hI.size hb.size,À]
   ·rw[Õ (bne_iff_ne.2 h2),if_pos h2]
 ·rw[Õ (by simp[ine,hc]),if_pos hc]
def NM (b:ß) (l:List Int):List (Int×Int):=l.map fun i=>(Ŭ b)[i.toNat]?.getD (0,0)
def agI {b:ß} (hg:Ď b) (hn:∀g∈b.2.1,I64 g.2.2.2.2.1.1) {l:List Int} (hl:l.length≤1000) (hi:∀i∈l,0≤i∧i.toNat<(á b).length):qq b l=some (NM b l):=by
 unfold qq Du;rw[qA (hg.inn hn),À,jq hg];refine ñ l (fun i=>NM b (l.take i)) _ rfl (fun i a hlt ha kn=>?_) (fun kn=>?_)
 ·try dsimp only
  unfold mW;have hx:=hi a (List.mem_of_getElem? ha);have hs:(Ŭ b)[a.toNat]?=some ((Ŭ b)[a.toNat]'(by rw[VM hg]; exact hx.2)):=List.getElem?_eq_getElem _;generalize (Ŭ b)[a.toNat]'(by rw[VM hg]; exact hx.2)=x at hs
  have hlen:(NM b (l.take i)).length≤1000:=by unfold NM; rw[List.length_map,List.length_take]; omega
  rw[Ô hlt,Ë ha,ii hx.1 hs,ħ (show ê ((NM b (l.take i)).length+[x].length)=true from Ö (show(NM b (l.take i)).length+1≤4294967296 by omega)),Î hlt (by omega),take_succ ha];unfold NM;rw[List.map_append,List.map_singleton,hs];rfl
 ·try dsimp only
  unfold mW;rw[à,List.take_length]
def src_ok {b:ß}:∀s∈Ŭ b,aov b s:=by
 intro s hs;unfold Ŭ at hs;rcases List.mem_append.1 hs with h|h
 ·have:=abX s h; exact .inl this
 ·have:=ack s h; exact .inr this
def alw {b:ß} (hg:Ď b) {l:List Int} (hi:∀i∈l,0≤i∧i.toNat<(á b).length):∀s∈NM b l,aov b s:=by
 intro s hs;obtain⟨i,h1,rfl⟩:=dR.1 hs;have hx:=hi i h1;have hsx:(Ŭ b)[i.toNat]?=some ((Ŭ b)[i.toNat]'(by rw[VM hg]; exact hx.2)):=cN _;rw[hsx];exact src_ok _ (fp _)
section
variable {L:List Lk} {N:Nat}
def JV (R:Nat→List Int) (good:Int→Bool):∀(k:Nat) (u sum:Int) (out:List Int),(∀i∈out,0≤i∧i.toNat<L.length)→(∀i∈sJ L R good k u sum out,0≤i∧i.toNat<L.length)∧(sJ L R good k u sum out).length≤out.length+k
 |0,u,sum,out,h=>⟨h,by simp[sJ]⟩
 |k+1,u,sum,out,h=>by
  unfold sJ
  cases hn:Se L (R k) good u sum with
  |none =>
   have:=JV R good k u sum out h;exact⟨this.1,by have:=this.2; dsimp only; omega⟩
  |some i =>
   have hi:i<L.length:=by
    unfold Se at hn;exact(List.findIdx?_eq_some_iff_getElem.1 hn).1
   have:=JV R good k (L[i]?.getD (0,0,0)).2.1 (sum+(L[i]?.getD (0,0,0)).2.2) (out++[(i:Int)]) (fun j hj=>by
    rcases cW.1 hj with h1|h1
    ·exact h j h1
    ·simp at h1; subst h1; simp; exact hi)
   exact⟨this.1,by have:=this.2; simp at this; dsimp only; omega⟩
def acn (N:Nat) (u v:Int):(∀i∈(RU L N u v).1,0≤i∧i.toNat<L.length)∧(RU L N u v).1.length≤N:=by
 unfold RU
 split
 ·simp
 ·cases h:(oy L N v N).findIdx? (fun x=>gv x u==(ip L N u v).1) with
  |none=>simp
  |some k =>
   have hk:=(List.findIdx?_eq_some_iff_getElem.1 h).1;rw[kK] at hk;have:=JV (L:=L) (exL L N v) (fun n=>ieq n (ip L N u v).1) k u 0 [] (by simp);exact⟨this.1,by have:=this.2; simp at this; dsimp only; omega⟩
end
def LO (B:ß) (n:Int×Int) (upper:Bool):List Int :=
 if upper then(RU (á B) ((Ì B).length+1) 0 (vX B n.1 n.2)).1 else(RU (á B) ((Ì B).length+1) (vX B n.1 n.2) 0).1
def xB (B:ß) (n:Int×Int) (upper:Bool):ß:=cutP B (NM B (LO B n upper)) [n]
def certR (B:ß) (n:Int×Int) (upper:Bool):am7:=(xB B n upper,n,upper,(if upper then(ivR B n).2 else(ivR B n).1),LO (xB B n upper) n upper)
def pb (b:ß) (n:Int×Int) (upper:Bool):am7×Int :=
 if (Ą b [n]).2≠0 then(aj9,(Ą b [n]).2) else
 if ä (xB (Ą b [n]).1 n upper)≠0 then(aj9,ä (xB (Ą b [n]).1 n upper)) else
 if ě (á (xB (Ą b [n]).1 n upper)) ((Ì (xB (Ą b [n]).1 n upper)).length+1) then(certR (Ą b [n]).1 n upper,0) else(aj9,9)
def ahF {ρ:Type}:@sl ρ=@Ē ρ:=rfl
def aiN {ρ:Type} (K:Option ρ):Ñ (fun(v23:Int) kk25=>sk (0:Int) v23 (fun u24=>kk25 u24) (fun _=>K)) (0:Int)=K:=by
 refine ī (fun x=>x=0) (fun _=>0) (fun x hx=>.inl fun kn=>?_) rfl;rw[hx];rfl
def ae5 {B:ß} (h:Ď B) (hn:∀g∈B.2.1,I64 g.2.2.2.2.1.1) (n:Int×Int) (upper:Bool):lN (B,RW B) n upper=some (LO B n upper):=by
 unfold lN vu LO;rw[RG h hn,À,show(B,RW B).2=RW B from rfl,Ib]
 cases upper with
 |true=>rw[Ľ,agB h.sys (iz B) (Κ B n),À]; rfl
 |false=>rw[ô,agB h.sys (Κ B n) (iz B),À]; rfl
def ahD {B:ß} (h:Ď B) (n:Int×Int) (upper:Bool):(∀i∈LO B n upper,0≤i∧i.toNat<(á B).length)∧(LO B n upper).length≤60:=by
 have hN:=h.sys.n60;unfold LO
 split
 ·have:=acn (L:=á B) ((Ì B).length+1) 0 (vX B n.1 n.2);exact⟨this.1,by have:=this.2; omega⟩
 ·have:=acn (L:=á B) ((Ì B).length+1) (vX B n.1 n.2) 0;exact⟨this.1,by have:=this.2; omega⟩
def QN (w:List Int):∀(l:List Cmp) (i:Nat),∀c∈DX w i l,c∈l
 |[],i,c,h=>by simp[DX] at h
 |a::l,i,c,h=>by
  simp only[DX] at h
  split at h
  ·rcases cZ.1 h with h|h
   ·rw[h]; simp
   ·exact gk _ (QN w l (i+1) c h)
  ·exact gk _ (QN w l (i+1) c h)
def anl {b:ß} (h:In b) (ss:List (Int×Int)) {looks:List (Int×Int)} (hl:looks.length≤1000):In (cutP b ss looks):=by
 obtain⟨hs,hn⟩:=h;have g1:=hs.gauges; have g2:=hs.uses; have g3:=hs.loans; have g4:=hs.compares;unfold cutP;refine⟨⟨?_,?_,?_,?_,hl,fun c hc=>hs.piles c (QN _ _ _ c hc)⟩,fun g hg=>hn g (List.mem_filter.1 hg).1⟩
 ·exact dC (dG _ _) g1
 ·exact dC (dG _ _) g2
 ·exact dC (dG _ _) g3
 ·exact dC (QO _ _ _) g4
def ah1 {b:ß} (hI:In b) (n:Int×Int) (upper:Bool):wg b n upper=some (pb b n upper):=by
 unfold wg DC pb;rw[ahF];refine(uQ hI (ns:=[n]) (by simp) (fun e=>some (aj9,e)) (fun e he=>by rw[ħ (by simp[ine,he])]; rfl) (fun z he=>by rw[ħ (by simp[ine,he])]; rfl) (fun _ _ _=>rfl)).trans ?_
 split
 ·rfl
 ·rename_i e;have hr:=(kU hI (by simpa using e)).1;dsimp only;generalize (Ą b [n]).1=B at hr ⊢;have hci:=ahD hr.good n upper;have hpi:In (xB B n upper):=anl (hr.good.inn hr.num) _ (by simp)
  rw[zx,show((((Ì B).length:Int)+1,á B):Sys)=RW B from rfl,ae5 hr.good hr.num,À,agI hr.good hr.num (by omega) hci.1,À,
   cut_ok hr.good.size (by unfold NM; rw[List.length_map]; omega) (by simp) (alw hr.good hci.1),À,show cutP B (NM B (LO B n upper)) [n]=xB B n upper from rfl,ja hpi.size hpi.num,À]
  by_cases hc:ä (xB B n upper)=0
  ·have hg:=(ð _).1 hc;rw[Ò (by simp[ine,hc]),if_neg (show ¬(ä (xB B n upper)≠0) from fun h=>h hc)];refine(aiN _).trans ?_;rw[qA hpi,À,jq hg,Ò (by rfl)];dsimp only;rw[show((((Ì (xB B n upper)).length:Int)+1,á (xB B n upper)):Sys)=RW (xB B n upper) from rfl,Ib (xB B n upper),H6 hg.sys,À]
   cases ho:ě (á (xB B n upper)) ((Ì (xB B n upper)).length+1) with
   |false=>rw[if_neg (by simp)]; rfl
   |true =>
    rw[if_pos rfl,←Ib (xB B n upper),Ò (by rfl),U5 hr,À,ae5 hg hpi.num,À]
    cases upper with
    |true=>rw[Ľ,Hm hr,À]; rfl
    |false=>rfl
  ·rw[Õ (by simp[ine,hc]),if_pos hc,Õ (by simp[ine,hc])];rfl
def ahA {L:List Lk} {N:Nat} (h:ĺ L N) (ho:ě L N=true):zE ((N:Int),L)=some ([],5):=by
 have hN:=h.n60;unfold zE P2;rw[lS h,À,Ò (by rfl),CQ h.links h.n1 (by omega),À,if_pos ho];rfl
def ade {b:ß} (hg:Ď b) (hn:∀g∈b.2.1,I64 g.2.2.2.2.1.1) (ho:ě (á b) ((Ì b).length+1)=true):HC b=some (aj9,5):=by
 unfold HC PP;rw[qA (hg.inn hn),À,jq hg,Ò (by rfl),show((((Ì b).length:Int)+1,á b),Ŭ b,(0:Int)).1=RW b from rfl,Ib,ahA hg.sys ho,À];rfl
def aj5 {k:Int×Int} (hk:0<k.2) (m n:Int):0<ano (EJ k m) (EJ k n)↔k.1*n<k.1*m:=by
 obtain⟨g,g0,_,g1,g2⟩:=zZ (n:=k.1*m) hk;obtain⟨h,h0,_,h1,h2⟩:=zZ (n:=k.1*n) hk
 have key:(EJ k n).1*(EJ k m).2<(EJ k m).1*(EJ k n).2↔k.1*n<k.1*m:=by
  have e1:(EJ k n).1*(EJ k m).2*((g:Int)*h)=k.1*n*k.2:=by
   show(ob (k.1*n) k.2).1*(ob (k.1*m) k.2).2*((g:Int)*h)=k.1*n*k.2
   calc _=((ob (k.1*n) k.2).1*h)*((ob (k.1*m) k.2).2*g):=by ac_rfl
    _=_:=by rw[←h1,←g2]
  have e2:(EJ k m).1*(EJ k n).2*((g:Int)*h)=k.1*m*k.2:=by
   show(ob (k.1*m) k.2).1*(ob (k.1*n) k.2).2*((g:Int)*h)=k.1*m*k.2
   calc _=((ob (k.1*m) k.2).1*g)*((ob (k.1*n) k.2).2*h):=by ac_rfl
    _=_:=by rw[←g1,←h2]
  have pg:0<(g:Int)*h:=Int.mul_pos (by omega) (by omega);constructor
  ·intro hl;have:=Int.mul_lt_mul_of_pos_right hl pg;rw[e1,e2] at this;exact Int.lt_of_mul_lt_mul_right this (by omega)
  ·intro hl;have:=Int.mul_lt_mul_of_pos_right hl hk;rw[←e1,←e2] at this;exact Int.lt_of_mul_lt_mul_right this (by omega)
 rw[←key];unfold ano
 by_cases he:EJ k m=EJ k n
 ·rw[if_pos he,he];omega
 ·rw[if_neg he]
  split
  ·omega
  ·split<;>omega
def agT {k:Int×Int} (hk:0<k.2) {heat:Int×Int} (hh:heat.1≤heat.2):Wf k heat=if k.1<0 then(EJ k heat.2,EJ k heat.1) else(EJ k heat.1,EJ k heat.2):=by
 unfold Wf
 by_cases hn:k.1<0
 ·rw[if_pos hn]
  by_cases he:heat.1=heat.2
  ·rw[he]
   split<;>rfl
  ·rw[if_pos ((aj5 hk _ _).2 (Int.mul_lt_mul_of_neg_left (by omega) hn))]
 ·rw[if_neg hn,if_neg (fun h=>by
   have h1:=(aj5 hk _ _).1 h;have h2:=Int.mul_le_mul_of_nonneg_left hh (show 0≤k.1 by omega)
   omega)]
section
variable {b x:ß}
def agZ (hg:x.2.1=b.2.1) (hd:∀g∈b.2.1,Û x g=Û b g):Ì x=Ì b:=by
 unfold Ì;rw[hg]
 have:∀l:List î,(∀g∈l,g∈b.2.1)→(l.flatMap fun g=>(Û x g).map fun d=>((g.1,d):Int×Int))=l.flatMap fun g=>(Û b g).map fun d=>((g.1,d):Int×Int):=by
  intro l
  induction l with
  |nil=>intro _; rfl
  |cons g t ih =>
   intro hl;rw[dL,dL,hd g (hl g (by simp)),ih fun g hg=>hl g (by simp[hg])]
 exact this _ fun g hg=>hg
end
section
variable {b:ß} {c d:Cmp}
end
section
variable {b x:ß}
end
section
variable {b:ß} {c d:Cmp} {s:Int×Int}
def anO (h:Pred b c s) : -10000000000000000≤s.1∧s.1≤s.2∧s.2≤10000000000000000:=by
 have q:=h.good2.cmp (j5 (c:=Â c));obtain⟨_,_,b1,b2,b3⟩:=nc (b:=b) h.good.film (c:=Â c) ⟨q.nums,q.r1,q.r2⟩;have e1:TW b c=D3 (Ĝ b (Â c)).1+(ik b (Â c)).1-(Â c).2.2.2.2.2.1:=rfl;have e2:sI b c=(Ĝ b (Â c)).2.1 / (Ĝ b (Â c)).2.2+(ik b (Â c)).2+(Â c).2.2.2.2.2.1:=rfl;have o:=h.order;have n:=h.ends;have bd:=h.bd;omega
end
def Ś (e:End):List Int:=[e.1-e.2.1,e.2.2-e.1,Int.tdiv (e.2.2-e.2.1) 2,Int.tdiv (e.2.2-e.2.1) 2-1,Int.tdiv (e.2.2-e.2.1) 2+1]
def ky (e:End) (n:Int):List Int:=[n-e.2.1,e.2.2-n]
def atE (e:End) (d:Int):Int:=min e.1 (min (e.2.1+d) (e.2.2-d))
def oB (w:uI) (d:Int):Int×Int:=(-(atE w.2.2 d),atE w.2.1 d)
def ahm (r:Int×Int) (n:Int):List Int:=[n-2,n-1,n,n+1,n+2].filter fun d=>decide (r.1<d)&&decide (d<r.2)
def L2 (r:Int×Int) (l:List Int):List Int:=[r.1,r.2]++l.flatMap (ahm r)
def ae4 (w:uI) (l:List Int):Int:=l.foldl (fun m d=>max m ((oB w d).2-(oB w d).1)) (-1)
def ah8 (w:uI):Int:=ae4 w (L2 w.1 (Ś w.2.1++Ś w.2.2))
def Sm (n:Int):Prop:=-100000000000000000≤n∧n≤100000000000000000
structure Y3 (e:End):Prop where
 s:Sm e.1
 u:Sm e.2.1
 d:Sm e.2.2
structure Kf (w:uI):Prop where
 lo:Sm w.1.1
 hi:Sm w.1.2
 high:Y3 w.2.1
 low:Y3 w.2.2
def NI (n:Int) : -1≤n-2*Int.tdiv n 2∧n-2*Int.tdiv n 2≤1:=by
 have h1:=Int.tmod_add_mul_tdiv n 2;have h2:=Int.tmod_two_eq n;omega
def M9 {e:End} (h:Y3 e):iK e=some (Ś e):=by
 obtain⟨⟨a1,a2⟩,⟨b1,b2⟩,c1,c2⟩:=h;have h2:=NI (e.2.2-e.2.1);unfold iK vk;rw[Ó (by omega) (by omega),Ó (by omega) (by omega),Ó (by omega) (by omega),Ó (by omega) (by omega),Ó (by omega) (by omega),Ó (by omega) (by omega)];rfl
def Nj {e:End} (h:Y3 e) {n:Int} (hn : -1000000000000000000≤n∧n≤1000000000000000000):iL e n=some (ky e n):=by
 obtain⟨⟨a1,a2⟩,⟨b1,b2⟩,c1,c2⟩:=h;unfold iL vl;rw[Ó (by omega) (by omega),Ó (by omega) (by omega)];rfl
def anv {e:End} (h:Y3 e) {d:Int} (hd:Sm d):uw e d=some (atE e d):=by
 obtain⟨⟨a1,a2⟩,⟨b1,b2⟩,c1,c2⟩:=h;obtain⟨d1,d2⟩:=hd;unfold uw I9;rw[Ó (by omega) (by omega),Ó (by omega) (by omega),vV,vV];unfold atE;congr 1;omega
def RH {e:End} (h:Y3 e) {d:Int} (hd:Sm d) : -200000000000000000≤atE e d∧atE e d≤100000000000000000:=by
 obtain⟨⟨a1,a2⟩,⟨b1,b2⟩,c1,c2⟩:=h;obtain⟨d1,d2⟩:=hd;unfold atE;omega
def aik {w:uI} (h:Kf w) {d:Int} (hd:Sm d):Ŕ w d=some (oB w d):=by
 unfold Ŕ sc;have b1:=RH h.low hd;rw[anv h.low hd,À,Ó (by omega) (by omega),anv h.high hd,À];unfold oB;rw[Int.zero_sub]
def ame (r:Int×Int) (n:Int):(ahm r n).length≤5:=dG _ _
def Q0 (r:Int×Int):∀l:List Int,(l.flatMap (ahm r)).length≤l.length*5
 |[]=>by simp
 |n::l=>by
  have h1:=ame r n;have h2:=Q0 r l;rw[dL,cR,dc];omega
def anZ {ρ:Type} (r:Int×Int) {n:Int} (hn : -4000000000000000000≤n∧n≤4000000000000000000) {out:List Int} (ho:out.length≤1000) (K:List Int→Option ρ) :
 Ñ (fun(v9:(Val (.pair tI (.slice tI)))) kk12=>hO n r.1 r.2 v9.1 v9.2 (fun u10 u11=>kk12 (u10,u11)) K) (n-2,out)=K (out++ahm r n):=by
 let five:List Int:=[n-2,n-1,n,n+1,n+2]
 have hg:∀(i:Nat),i<5→five[i]?=some (n-2+i):=by
  intro i hi
  have:i=0∨i=1∨i=2∨i=3∨i=4:=by omega
  rcases this with rfl|rfl|rfl|rfl|rfl<;>simp only[five,fe,List.getElem?_cons_succ]<;>congr 1<;>omega
 refine ī (fun v=>∃i:Nat,i≤5∧v=(n-2+(i:Int),out++(five.take i).filter fun d=>decide (r.1<d)&&decide (d<r.2))) (fun v=>(n+3-v.1).toNat) ?_ ⟨0,by omega,by simp⟩;rintro v ⟨i,hi,rfl⟩;rcases du i 5 with h5|h5
 ·refine .inr ⟨(n-2+((i+1:Nat):Int),out++(five.take (i+1)).filter fun d=>decide (r.1<d)&&decide (d<r.2)),⟨i+1,h5,rfl⟩,by dsimp only; omega,fun kn=>?_⟩;have hl:((five.take i).filter fun d=>decide (r.1<d)&&decide (d<r.2)).length≤5:=qk _ five i;dsimp only;unfold hO;rw[Ó (by omega) (by omega),Õ (decide_eq_true (by omega)),take_succ (hg i h5),List.filter_append]
  have e0:n-2+(i:Int)+1=n-2+((i+1:Nat):Int):=by push_cast; omega
  by_cases h1:r.1<n-2+(i:Int)
  ·rw[Õ (show igt (n-2+(i:Int)) r.1=true from decide_eq_true h1)]
   by_cases h2:n-2+(i:Int)<r.2
   ·rw[Õ (show ilt (n-2+(i:Int)) r.2=true from decide_eq_true h2),ħ (Ö (by rw[cR]; simp only[dz]; omega)),Ó (by omega) (by omega),e0];simp[h1,h2]
   ·rw[Ò (show ilt (n-2+(i:Int)) r.2=false from decide_eq_false h2),Ó (by omega) (by omega),e0];simp[h1,h2]
  ·rw[Ò (show igt (n-2+(i:Int)) r.1=false from decide_eq_false h1),Ó (by omega) (by omega),e0];simp[h1]
 ·refine .inl fun kn=>?_
  obtain rfl:i=5:=by omega
  dsimp only;unfold hO;rw[Ó (by omega) (by omega),Ò (decide_eq_false (by omega))];rfl
def ai2 (w:uI) {l:List Int} (hl:l.length≤100) (hn:∀n∈l,-2000000000000000000≤n∧n≤2000000000000000000):jW w l=some (L2 w.1 l):=by
 unfold jW sd;refine ñ l (fun i=>[w.1.1,w.1.2]++(l.take i).flatMap (ahm w.1)) _ rfl (fun i n hi ha kn=>?_) (fun kn=>?_)
 ·try dsimp only
  unfold jy;have hb:=hn n (List.mem_of_getElem? ha);have h5:=Q0 w.1 (l.take i)
  have ht:(l.take i).length≤100:=by rw[dh]; omega
  rw[Ô hi,Ë ha,Ó (by omega) (by omega)];refine(anZ w.1 (by omega) (by rw[cR]; simp only[dc,dm]; omega) _).trans ?_;rw[Î hi (by omega),take_succ ha,eS,dk];simp
 ·try dsimp only
  unfold jy;rw[à,List.take_length];rfl
def EI {r:Int×Int} {l:List Int} {d:Int}:d∈L2 r l↔d=r.1∨d=r.2∨(r.1<d∧d<r.2∧∃n∈l,n-2≤d∧d≤n+2):=by
 unfold L2 ahm;simp only[List.mem_append,List.mem_cons,List.not_mem_nil,or_false,List.mem_flatMap,List.mem_filter,Bool.and_eq_true,decide_eq_true_eq];constructor
 ·rintro((h|h)|⟨n,hn,h,h1,h2⟩)
  ·exact .inl h
  ·exact .inr (.inl h)
  ·exact .inr (.inr ⟨h1,h2,n,hn,by omega,by omega⟩)
 ·rintro(h|h|⟨h1,h2,n,hn,h3,h4⟩)
  ·exact .inl (.inl h)
  ·exact .inl (.inr h)
  ·exact .inr ⟨n,hn,by omega,h1,h2⟩
def afI (r:Int×Int) {l:List Int} (hl:l.length≤100):(L2 r l).length≤600:=by
 have:=Q0 r l;unfold L2;rw[List.length_append];simp only[List.length_cons,List.length_nil];omega
def ai1 {w:uI} (h:Kf w) {l:List Int}:∀d∈L2 w.1 l,Sm d:=by
 intro d hd;obtain⟨a1,a2⟩:=h.lo;obtain⟨b1,b2⟩:=h.hi;rcases EI.1 hd with h|h|⟨h1,h2,_⟩
 ·rw[h]; exact⟨a1,a2⟩
 ·rw[h]; exact⟨b1,b2⟩
 ·exact⟨by omega,by omega⟩
def Na {e:End} (h:Y3 e):∀n∈Ś e,-1000000000000000000≤n∧n≤1000000000000000000:=by
 obtain⟨⟨a1,a2⟩,⟨b1,b2⟩,c1,c2⟩:=h;have h2:=NI (e.2.2-e.2.1);intro n hn;unfold Ś at hn;simp only[List.mem_cons,List.not_mem_nil,or_false] at hn;omega
def alh {w:uI} (h:Kf w):lK w=some (ah8 w):=by
 unfold lK pN
 have hl:([Ś w.2.1,Ś w.2.2]:List (List Int)).flatten=Ś w.2.1++Ś w.2.2:=by simp
 have hll:(Ś w.2.1++Ś w.2.2).length=10:=rfl
 rw[M9 h.high,À,M9 h.low,À,pw (by simp) (by rw[hl,hll]; omega),À,hl,ai2 w (by rw[hll]; omega) (fun n hn=>by
  rcases cW.1 hn with hn|hn
  ·have:=Na h.high n hn; omega
  ·have:=Na h.low n hn; omega),À]
 have hnl:=afI w.1 (l:=Ś w.2.1++Ś w.2.2) (by rw[hll]; omega);have hsm:=ai1 h (l:=Ś w.2.1++Ś w.2.2);unfold ah8;generalize L2 w.1 (Ś w.2.1++Ś w.2.2)=l at hnl hsm ⊢;refine ī (fun v=>∃i:Nat,i≤l.length∧v=(ae4 w (l.take i),(i:Int))) (fun v=>l.length-v.2.toNat) ?_ ⟨0,by omega,rfl⟩;rintro v ⟨i,hi,rfl⟩;rcases Nat.lt_or_ge i l.length with h2|h2
 ·have ha:l[i]?=some l[i]:=List.getElem?_eq_getElem h2;have hs:=hsm l[i] (List.getElem_mem _);generalize l[i]=d at ha hs;refine .inr ⟨(ae4 w (l.take (i+1)),((i+1:Nat):Int)),⟨i+1,h2,rfl⟩,by dsimp only; omega,fun kn=>?_⟩;dsimp only;unfold i8;have b1:=RH h.low hs;have b2:=RH h.high hs;rw[Ô h2,Ë ha,show Ŕ ((w.1.1,w.1.2),(w.2.1.1,w.2.1.2.1,w.2.1.2.2),w.2.2.1,w.2.2.2.1,w.2.2.2.2) d=Ŕ w d from rfl,aik h hs,À,Ó (by unfold oB; dsimp only; omega) (by unfold oB; dsimp only; omega),Î h2 (by omega),Yo,take_succ ha];unfold ae4;rw[List.foldl_append];rfl
 ·refine .inl fun kn=>?_
  obtain rfl:i=l.length:=by omega
  dsimp only;unfold i8;rw[à,List.take_length]
def VJ {b:ß} {n:Int×Int} {c:Cmp} (hp:(û b c).2=0):Kf (pB b n c):=by
 obtain⟨g1,g2⟩:=o9 hp;have ho:=Kv hp;have hb:=anO (Ku hp);have hx:=xi g2;have hy:=xh g2;have b6:=adf g1 g2 ho
 have key:∀{s t:Int},0≤s∧s<((Ì (Ø b (Â c))).length+1:Nat)→0≤t∧t<((Ì (Ø b (Â c))).length+1:Nat)→Y3 (endP b (Â c) s t):=by
  intro s t hs ht;have b1:=qf g1 g2 ho hs ht;have b2:=qf g1 g2 ho hs hy;have b3:=qf g1 g2 ho hx ht;have b4:=qf g1 g2 ho hs hx;have b5:=qf g1 g2 ho hy ht;unfold endP;exact⟨⟨by dsimp only; omega,by dsimp only; omega⟩,⟨by dsimp only; omega,by dsimp only; omega⟩,by dsimp only; omega,by dsimp only; omega⟩
 exact⟨⟨by show _≤(û b c).1.1; omega,by show(û b c).1.1≤_; omega⟩,⟨by show _≤(û b c).1.2; omega,by show(û b c).1.2≤_; omega⟩,key (iz _) (Κ _ n),key (Κ _ n) (iz _)⟩
def agr (b:ß) (n:Int×Int) (c:Cmp):Int×Int :=
 if (Ą b [n]).2≠0 then(0,(Ą b [n]).2) else if (û (Ą b [n]).1 c).2≠0 then(0,(û (Ą b [n]).1 c).2) else(ah8 (pB (Ą b [n]).1 n c),0)
def ali {ρ:Type}:@yK ρ=@Ē ρ:=rfl
def amV {b:ß} (hI:In b) (n:Int×Int) {c:Cmp} (hA:c.2.2.1.length≤1000) (hB:c.2.2.2.1.length≤1000):zC b n c=some (agr b n c):=by
 unfold zC PJ agr;rw[ali];refine(uQ hI (ns:=[n]) (by simp) (fun e=>some ((0:Int),e)) (fun e he=>by rw[ħ (by simp[ine,he])]) (fun z he=>by rw[ħ (by simp[ine,he])]) (fun _ _ _=>rfl)).trans ?_
 split
 ·rfl
 ·rename_i e;have hr:=(kU hI (by simpa using e)).1;dsimp only;rw[zx,show((((Ì (Ą b [n]).1).length:Int)+1,á (Ą b [n]).1):Sys)=RW (Ą b [n]).1 from rfl,abP hr n hA hB,À];unfold Yl
  by_cases hp:(û (Ą b [n]).1 c).2=0
  ·rw[if_neg (by simp[hp]),if_neg (by simp[hp]),Ò (by rfl),alh (VJ hp),À]
  ·rw[if_pos hp,if_pos hp,Õ (bne_iff_ne.2 hp)]
def T0 (x:Int):Int:=max (-288230376151711744) (min x 288230376151711744)
def rX (w:uI) (l:Int×Int):List Int:=(Ś w.2.1++Ś w.2.2)++(ky w.2.1 l.1++ky w.2.2 (-l.1))++(ky w.2.1 l.2++ky w.2.2 (-l.2))
def qG (w:uI) (l:Int×Int):Bool:=(L2 w.1 (rX w l)).all fun d=>Ļ (oB w d) l != 3
def m9 (b:ß) (n l:Int×Int) (c:Cmp):Bool×Int :=
 if (Ą b [n]).2≠0 then(false,(Ą b [n]).2) else if l.2<l.1 then(false,1) else if (û (Ą b [n]).1 c).2≠0 then(false,(û (Ą b [n]).1 c).2) else(qG (pB (Ą b [n]).1 n c) (T0 l.1,T0 l.2),0)
def agJ {ρ:Type}:@sh ρ=@Ē ρ:=rfl
def anj (x:Int):lL x=some (T0 x):=by
 unfold lL vp T0;rw[vV,Yo]
def Nk {e:End} (h:Y3 e) {n:Int} (hn : -300000000000000000≤n∧n≤300000000000000000):∀m∈ky e n,-1000000000000000000≤m∧m≤1000000000000000000:=by
 obtain⟨⟨a1,a2⟩,⟨b1,b2⟩,c1,c2⟩:=h;intro m hm;unfold ky at hm;simp only[List.mem_cons,List.not_mem_nil,or_false] at hm;omega
def VE {b:ß} (hI:In b) (n l:Int×Int) {c:Cmp} (hA:c.2.2.1.length≤1000) (hB:c.2.2.2.1.length≤1000):mK b n l c=some (m9 b n l c):=by
 unfold mK DA m9;rw[agJ];refine(uQ hI (ns:=[n]) (by simp) (fun e=>some (false,e)) (fun e he=>by rw[Õ (by simp[ine,he])]) (fun z he=>by rw[Õ (by simp[ine,he])]) (fun _ _ _=>rfl)).trans ?_
 split
 ·rfl
 ·rename_i e;have hr:=(kU hI (by simpa using e)).1;dsimp only
  by_cases hl:l.2<l.1
  ·rw[Õ (by simp[igt,hl]),if_pos hl]
  ·rw[Ò (by simp[igt]; omega),if_neg hl,zx,show((((Ì (Ą b [n]).1).length:Int)+1,á (Ą b [n]).1):Sys)=RW (Ą b [n]).1 from rfl,abP hr n hA hB,À];unfold Yl
   by_cases hp:(û (Ą b [n]).1 c).2=0
   ·rw[if_neg (by simp[hp]),if_neg (by simp[hp]),Ò (by rfl)];have hw:=VJ (n:=n) hp;dsimp only;generalize pB (Ą b [n]).1 n c=w at hw ⊢
    have f1 : -300000000000000000≤T0 l.1∧T0 l.1≤300000000000000000:=by unfold T0; omega
    have f2 : -300000000000000000≤T0 l.2∧T0 l.2≤300000000000000000:=by unfold T0; omega
    have q1:([Ś w.2.1,Ś w.2.2]:List (List Int)).flatten=Ś w.2.1++Ś w.2.2:=by simp
    have q2:∀x y z:List Int,([x,y,z]:List (List Int)).flatten=x++(y++z):=by intro x y z; simp
    rw[M9 hw.high,À,M9 hw.low,À,pw (by simp) (by rw[q1]; simp[Ś]),À,q1,anj,À,anj,À];generalize T0 l.1=l1 at f1 ⊢;generalize T0 l.2=l2 at f2 ⊢
    rw[Nj hw.high (by omega),À,Ó (by omega) (by omega),Int.zero_sub,Nj hw.low (by omega),À,pw (by simp) (by rw[q2]; simp[Ś,ky]),À,q2,
     Nj hw.high (by omega),À,Ó (by omega) (by omega),Int.zero_sub,Nj hw.low (by omega),À,pw (by simp) (by rw[q2]; simp[Ś,ky]),À,q2]
    have hll:(rX w (l1,l2)).length=18:=rfl;have qs:Ś w.2.1++Ś w.2.2++(ky w.2.1 l1++ky w.2.2 (-l1))++(ky w.2.1 l2++ky w.2.2 (-l2))=rX w (l1,l2):=rfl
    rw[qs,ai2 w (by rw[hll]; omega) (fun m hm=>by
     unfold rX at hm;simp only[List.mem_append] at hm;rcases hm with((hm|hm)|(hm|hm))|(hm|hm)
     ·have:=Na hw.high m hm; omega
     ·have:=Na hw.low m hm; omega
     ·have:=Nk hw.high f1 m hm; omega
     ·have:=Nk hw.low (n:=-l1) (by omega) m hm; omega
     ·have:=Nk hw.high f2 m hm; omega
     ·have:=Nk hw.low (n:=-l2) (by omega) m hm; omega),À]
    have hnl:=afI w.1 (l:=rX w (l1,l2)) (by rw[hll]; omega);have hsm:=ai1 hw (l:=rX w (l1,l2));unfold qG;generalize L2 w.1 (rX w (l1,l2))=ds at hnl hsm ⊢;refine(ń ds (fun d=>Ļ (oB w d) (l1,l2)==3) (fun z30=>some ((!(ige z30 (0:Int))),(0:Int))) (some (false,0)) (some (true,0)) (fun j=>by rw[show ige (j:Int) 0=true from decide_eq_true (by omega)]; rfl) (fun i d hi hd kn=>?_) (fun kn=>?_)).trans ?_
    ·try dsimp only
     unfold mX;rw[Ô hi,Ë hd,show Ŕ ((w.1.1,w.1.2),(w.2.1.1,w.2.1.2.1,w.2.1.2.2),w.2.2.1,w.2.2.2.1,w.2.2.2.2) d=Ŕ w d from rfl,aik hw (hsm d (List.mem_of_getElem? hd)),À,T7,À,Î hi (by omega),Ĕ]
    ·try dsimp only
     unfold mX;rw[à]
    ·rw[show(fun d=>Ļ (oB w d) (l1,l2) != 3)=(fun d=>!(Ļ (oB w d) (l1,l2)==3)) from rfl,←List.not_any_eq_all_not]
     cases ds.any fun d=>Ļ (oB w d) (l1,l2)==3<;>rfl
   ·rw[if_pos hp,if_pos hp,Õ (bne_iff_ne.2 hp)]
def VI (b:ß) (n:Int×Int):Prop:=∃g∈b.2.1,g.1=n.1∧n.2∈Û b g
theorem ama {b:ß} (h:Ď b) {n:Int×Int}:vX b n.1 n.2≠0↔VI b n:=by
 unfold vX;constructor
 ·intro hne
  cases hx:iB (Ì b) n.1 n.2 with
  |none=>rw[hx] at hne; simp at hne
  |some j =>
   have hm:=List.mem_of_getElem? (kv hx).2;unfold Ì at hm;obtain⟨g,hg,hd⟩:=List.mem_flatMap.1 hm;obtain⟨d,hd,e⟩:=List.mem_map.1 hd;simp only[Prod.mk.injEq] at e;obtain⟨e1,rfl⟩:=e;exact⟨g,hg,e1,hd⟩
 ·rintro⟨g,hg,e,hd⟩;obtain⟨i,hi,rfl⟩:=List.mem_iff_getElem.1 hg;obtain⟨k,hk,e2⟩:=List.mem_iff_getElem.1 hd;rw[←e,Wm h (List.getElem?_eq_getElem hi) (by rw[List.getElem?_eq_getElem hk,e2])];dsimp only;omega
theorem ajZ (b:ß) (n:Int×Int) (g:î) {d:Int} (hd:d∈Û b g):d∈Û (jj b n) g:=by
 unfold Û at hd ⊢;rw[qH] at hd ⊢;unfold YB jj at *;simp only[List.mem_append,List.mem_map,List.mem_filter] at hd ⊢;rcases hd with(h|h)|⟨m,⟨h1,h2⟩,h3⟩
 ·exact .inl (.inl h)
 ·exact .inl (.inr h)
 ·exact .inr ⟨m,⟨.inl h1,h2⟩,h3⟩
theorem ajh {b:ß} (n:Int×Int) (h':Ď (jj b n)):VI (jj b n) n:=by
 have hu:=h'.looks n (by simp[jj]);unfold agE at hu
 split at hu
 ·omega
 obtain⟨g,hg,_⟩:=IA h' hu;obtain⟨hm,e⟩:=nO hg;refine⟨g,hm,e,?_⟩;unfold Û;rw[qH];unfold YB jj;simp only[List.mem_append,List.mem_map,List.mem_filter];exact .inr ⟨n,⟨.inr (by simp),by simp[e]⟩,rfl⟩
theorem NK {b:ß} {n:Int×Int} (e:(jK b n).2=0):(jK b n=(b,0)∧vX b n.1 n.2≠0)∨(jK b n=(jj b n,0)∧Ď (jj b n)∧vX b n.1 n.2=0):=by
 unfold jK at e ⊢
 split
 ·rename_i h; exact .inl ⟨rfl,h⟩
 ·rename_i h1;rw[if_neg h1] at e
  split
  ·rename_i h2; rw[if_pos h2] at e; exact absurd e h2
  ·rename_i h2; exact .inr ⟨rfl,(ð _).1 (by simpa using h2),by simpa using h1⟩
theorem Zz:∀{ns:List (Int×Int)} {b:ß},(Ő b ns).2=0→∀n,VI b n→VI (Ő b ns).1 n
 |[],b,_,n,hn=>hn
 |m::t,b,e,n,hn=>by
  unfold Ő at e ⊢
  split
  ·rename_i h1; rw[if_pos h1] at e; exact absurd e h1
  ·rename_i h1;rw[if_neg h1] at e;refine Zz e n ?_;rcases NK (by simpa using h1) with⟨h,_⟩|⟨h,_,_⟩
   ·rw[h]; exact hn
   ·rw[h];obtain⟨g,hg,e1,hd⟩:=hn;exact⟨g,hg,e1,ajZ b m g hd⟩
theorem Zy:∀{ns:List (Int×Int)} {b:ß},Ď b→(Ő b ns).2=0→∀n∈ns,VI (Ő b ns).1 n
 |[],b,_,_,n,hn=>by simp at hn
 |m::t,b,hg,e,n,hn=>by
  unfold Ő at e ⊢
  split
  ·rename_i h1; rw[if_pos h1] at e; exact absurd e h1
  ·rename_i h1;rw[if_neg h1] at e
   have h1':(jK b m).2=0:=by simpa using h1
   rcases cZ.1 hn with rfl|hn
   ·refine Zz e n ?_;rcases NK h1' with⟨h,h2⟩|⟨h,h2,_⟩
    ·rw[h]; exact(ama hg).1 h2
    ·rw[h]; exact ajh n h2
   ·exact Zy (Zl hg h1') e n hn
theorem aji {b:ß} {n:Int×Int} {f:Int→Int→Int} {z:Int}:acX (jj b n) f z↔acX b f z :=
 ⟨fun h=>⟨fun g hg=>by have:=h.gauge g hg; exact⟨this.hi,this.lo,this.down,this.loss⟩,h.cmp⟩,fun h=>⟨fun g hg=>by have:=h.gauge g hg; exact⟨this.hi,this.lo,this.down,this.loss⟩,h.cmp⟩⟩
theorem ZA:∀{ns:List (Int×Int)} {b:ß},(Ő b ns).2=0→∀{f:Int→Int→Int} {z:Int},acX (Ő b ns).1 f z↔acX b f z
 |[],b,_,f,z=>Iff.rfl
 |m::t,b,e,f,z=>by
  unfold Ő at e ⊢
  split
  ·rename_i h1; rw[if_pos h1] at e; exact absurd e h1
  ·rename_i h1;rw[if_neg h1] at e;rw[ZA e];rcases NK (by simpa using h1) with⟨h,_⟩|⟨h,_,_⟩
   ·rw[h]
   ·rw[h]; exact aji
section
variable {B:ß} (h:anw B)
include h
end
structure Asked (b:ß) (ns:List (Int×Int)) (B:ß):Prop where
 room:anw B
 nodes:∀n∈ns,VI B n
 hist:∀{f:Int→Int→Int} {z:Int},acX B f z↔acX b f z
 good:Ď b
 gauges:B.2.1=b.2.1
theorem agV {b:ß} (hI:In b) {ns:List (Int×Int)} (e:(Ą b ns).2=0):Asked b ns (Ą b ns).1:=by
 obtain⟨h1,h2,h3,h4⟩:=kU hI e;exact⟨h1,by rw[h2]; exact Zy h4 h3,by rw[h2]; exact ZA h3,h4,by rw[h2]; exact uM h3⟩
def LQ (c:Cmp):Bool:=decide (c.2.2.1.length≤10)&&decide (c.2.2.2.1.length≤10)
theorem acD (c:Cmp):ug c=some (LQ c):=by
 unfold ug IC LQ;rw[é,é,Ĕ]
 by_cases h:c.2.2.1.length≤10
 ·rw[if_pos (by simp[ile]; omega)];simp[ile,h];omega
 ·rw[if_neg (by simp[ile]; omega)];simp[h]
def fewP (b:ß):Bool :=
 !((b.2.2.2.2.1.take 50).any fun c=>!LQ c)&&(decide (b.2.1.length≤14)&&(decide (b.2.2.1.length≤45)&&(decide (b.2.2.2.1.length≤14)&&(decide (b.2.2.2.2.1.length≤42)&&decide (b.2.2.2.2.2.length≤12)))))
theorem few_ok (b:ß):Nu b=some (fewP b):=by
 unfold Nu Wt
 have last:(ifb (ile (Þ b.2.1) (14:Int)) (ifb (ile (Þ b.2.2.1) (45:Int)) (ifb (ile (Þ b.2.2.2.1) (14:Int)) (ifb (ile (Þ b.2.2.2.2.1) (42:Int)) (some (ile (Þ b.2.2.2.2.2) (12:Int))) (some false)) (some false)) (some false)) (some false)) =
  some (decide (b.2.1.length≤14)&&(decide (b.2.2.1.length≤45)&&(decide (b.2.2.2.1.length≤14)&&(decide (b.2.2.2.2.1.length≤42)&&decide (b.2.2.2.2.2.length≤12))))):=by
  have e:∀(n m:Nat),ile (n:Int) (m:Int)=decide (n≤m):=fun n m=>by simp[ile]
  rw[é,é,é,é,é,show(14:Int)=((14:Nat):Int) from rfl,show(45:Int)=((45:Nat):Int) from rfl,show(42:Int)=((42:Nat):Int) from rfl,show(12:Int)=((12:Nat):Int) from rfl,e,e,e,e,e];generalize decide (b.2.1.length≤14)=x1;generalize decide (b.2.2.1.length≤45)=x2;generalize decide (b.2.2.2.1.length≤14)=x3;generalize decide (b.2.2.2.2.1.length≤42)=x4
  cases x1<;>cases x2<;>cases x3<;>cases x4<;>rfl
 rw[last];refine eR (ń (b.2.2.2.2.1.take 50) (fun c=>!LQ c) (fun _=>some false) (some false) (some (decide (b.2.1.length≤14)&&(decide (b.2.2.1.length≤45)&&(decide (b.2.2.2.1.length≤14)&&(decide (b.2.2.2.2.1.length≤42)&&decide (b.2.2.2.2.2.length≤12)))))) (fun _=>rfl) (fun i c hi hc kn=>?_) (fun kn=>?_)) ?_
 ·try dsimp only
  unfold uT;rw[List.length_take] at hi
  have hc':b.2.2.2.2.1[i]?=some c:=by rw[d9] at hc; split at hc<;>simp_all
  rw[Ô (show i<b.2.2.2.2.1.length by omega),Õ (decide_eq_true (by omega)),Ë hc',acD,À,Ó (by omega) (by omega),Ĕ]
 ·try dsimp only
  unfold uT;rw[List.length_take,Ĕ]
  split
  ·rename_i h
   have h':50<b.2.2.2.2.1.length:=by rw[é] at h; simp[ilt] at h; omega
   rw[Ò (decide_eq_false (by omega))]
  ·rfl
 ·unfold fewP
  cases List.any (List.take 50 b.2.2.2.2.1) (fun c=>!LQ c)<;>rfl
theorem ami {b:ß} (h:fewP b=true):Ŵ b:=by
 simp only[fewP,cQ,eN,decide_eq_true_eq] at h;obtain⟨h0,h1,h2,h3,h4,h5⟩:=h;refine⟨by omega,by omega,by omega,by omega,by omega,fun c hc=>?_⟩;rw[dV (by omega)] at h0;have:=eP.1 h0 c hc;simp[LQ] at this;omega
section
variable {L:List Lk} {N:Nat} {x y H G:Int}
def amm (h:ĺ L N) (ht:HZ L N) (ho:ě L N=true) {s t:Int} (hs:0≤s∧s<N) (hv:0≤t∧t<N):∃vs,Wl L (fun u=>u=s) vs t (dst L N s t):=by
 have h2:=h.n60;obtain⟨p,hp⟩:=(Ŏ h.links (by omega)).1 ho;obtain⟨vs,hw⟩:=(jp h.links (by omega) hp hs).att t hv.1 hv.2 (af5 h ht ho hs hv);exact⟨vs,aac.1 hw⟩
def aoe (h:ĺ L N) (ho:ě L N=true) {s t d:Int} (hs:0≤s∧s<N) {vs:List Int} (hw:Wl L (fun u=>u=s) vs t d):dst L N s t≤d:=by
 have h2:=h.n60;obtain⟨p,hp⟩:=(Ŏ h.links (by omega)).1 ho;exact(jp h.links (by omega) hp hs).low t vs d (aac.2 hw)
end
def alm {w:uI} {d:Int} (hd:w.1.1<d∧d<w.1.2) {l:List Int} (hn:d∉L2 w.1 l):∀n∈l,n+2<d∨d<n-2:=by
 intro n hm;rcases(show n+2<d∨d≤n+2 by omega) with h|h
 ·exact .inl h
 ·rcases(show d<n-2∨n-2≤d by omega) with h2|h2
  ·exact .inr h2
  ·exact absurd (EI.2 (.inr (.inr ⟨hd.1,hd.2,n,hm,by omega,by omega⟩))) hn
def ahh (w:uI) (l:Int×Int) {d:Int} (h:∀n∈rX w l,n+2<d∨d<n-2) (ho:Ļ (oB w d) l=3):Ļ (oB w (d+1)) l=3:=by
 have q:∀n,(n∈Ś w.2.1∨n∈Ś w.2.2∨n∈ky w.2.1 l.1∨n∈ky w.2.2 (-l.1)∨n∈ky w.2.1 l.2∨n∈ky w.2.2 (-l.2))→n+2<d∨d<n-2:=fun n hn=>h n (by
  unfold rX;simp only[List.mem_append]
  rcases hn with h|h|h|h|h|h<;>simp[h])
 have key:∀(e:End) (n:Int),(∀m∈Ś e,m+2<d∨d<m-2)→(∀m∈ky e n,m+2<d∨d<m-2)→((atE e d≤n↔atE e (d+1)≤n)∧(atE e d<n↔atE e (d+1)<n)):=by
  intro e n t m;have t1:=t (e.1-e.2.1) (by simp[Ś]);have t2:=t (e.2.2-e.1) (by simp[Ś]);have t3:=t (Int.tdiv (e.2.2-e.2.1) 2) (by simp[Ś]);have hh:=NI (e.2.2-e.2.1);have m1:=m (n-e.2.1) (by simp[ky]);have m2:=m (e.2.2-n) (by simp[ky]);generalize Int.tdiv (e.2.2-e.2.1) 2=k at t3 hh;unfold atE;omega
 obtain⟨a1,a2⟩:=key w.2.1 l.1 (fun m hm=>q m (.inl hm)) (fun m hm=>q m (.inr (.inr (.inl hm))));obtain⟨b1,b2⟩:=key w.2.1 l.2 (fun m hm=>q m (.inl hm)) (fun m hm=>q m (.inr (.inr (.inr (.inr (.inl hm))))));obtain⟨c1,c2⟩:=key w.2.2 (-l.1) (fun m hm=>q m (.inr (.inl hm))) (fun m hm=>q m (.inr (.inr (.inr (.inl hm)))));obtain⟨d1,d2⟩:=key w.2.2 (-l.2) (fun m hm=>q m (.inr (.inl hm))) (fun m hm=>q m (.inr (.inr (.inr (.inr (.inr hm))))));unfold Ļ oB at ho ⊢;dsimp only at ho ⊢
 split at ho
 ·omega
 ·rename_i h1
  split at ho
  ·omega
  ·rename_i h2;rw[if_neg (by omega),if_neg (by omega)]
def agK (w:uI) (l:Int×Int) (hs:qG w l=true):∀d,w.1.1≤d→d≤w.1.2→Ļ (oB w d) l≠3:=by
 unfold qG at hs;rw[List.all_eq_true] at hs
 have key:∀(k:Nat) (d:Int),w.1.1≤d→d≤w.1.2→(w.1.2-d).toNat=k→Ļ (oB w d) l≠3:=by
  intro k
  induction k with
  |zero =>
   intro d a b hk;simpa using hs d (EI.2 (.inr (.inl (by omega))))
  |succ k ih =>
   intro d a b hk
   by_cases hn:d∈L2 w.1 (rX w l)
   ·simpa using hs d hn
   ·have hd:w.1.1<d∧d<w.1.2:=by
     constructor
     ·rcases Int.lt_or_eq_of_le a with h|h
      ·exact h
      ·exact absurd (EI.2 (.inl h.symm)) hn
     ·omega
    intro hv;exact ih (d+1) (by omega) (by omega) (by omega) (ahh w l (alm hd hn) hv)
 exact fun d a b=>key _ d a b rfl
def ac9 (w:uI) (l:Int×Int) (hr:w.1.1≤w.1.2) (hs:qG w l=false):∃d,w.1.1≤d∧d≤w.1.2∧Ļ (oB w d) l=3:=by
 unfold qG at hs;rw[List.all_eq_false] at hs;obtain⟨d,hd,h⟩:=hs
 refine⟨d,?_,?_,by simpa using h⟩<;>rcases EI.1 hd with q|q|⟨q1,q2,_⟩<;>omega
def aeq {s l:Int×Int} (h1 : -288230376151711744<s.1∧s.1<288230376151711744) (h2 : -288230376151711744<s.2∧s.2<288230376151711744):Ļ s (T0 l.1,T0 l.2)=Ļ s l:=by
 unfold Ļ T0;dsimp only
 have e1:(max (-288230376151711744) (min l.1 288230376151711744)≤s.1∧s.2≤max (-288230376151711744) (min l.2 288230376151711744))↔(l.1≤s.1∧s.2≤l.2):=by omega
 have e2:(s.2<max (-288230376151711744) (min l.1 288230376151711744)∨max (-288230376151711744) (min l.2 288230376151711744)<s.1)↔(s.2<l.1∨l.2<s.1):=by omega
 simp only[e1,e2]
inductive Wk (L:List Lk) (to:Int):Nat→Int→Int→Prop
 |nil:Wk L to 0 to 0
 |step {k:Nat} {v w m d:Int}:(v,w,m)∈L→Wk L to k w d→Wk L to (k+1) v (m+d)
section
variable {L:List Lk} {N:Nat}
def Wk.snoc {u v m:Int} (hl:(u,v,m)∈L):∀{k:Nat} {s d:Int},Wk L u k s d→Wk L v (k+1) s (d+m):=by
 intro k s d h
 induction h with
 |nil =>
  have:=Wk.step hl (Wk.nil (L:=L) (to:=v))
  have e:m+0=0+m:=by omega
  rw[e] at this;exact this
 | @step k a w m' d h1 h2 ih =>
  have:=Wk.step h1 ih
  have e:m'+(d+m)=m'+d+m:=by omega
  rw[e] at this;exact this
def Wl.front {s w m:Int} (hl:(s,w,m)∈L) {vs:List Int} {t d:Int} (h:Wl L (fun u=>u=w) vs t d):Wl L (fun u=>u=s) (vs++[s]) t (m+d):=by
 induction h with
 | @nil v hv =>
  have hv':v=w:=hv;subst hv';have:=Wl.step (Wl.nil (L:=L) (S:=fun u=>u=s) rfl) hl
  have e:0+m=m+0:=by omega
  rw[e] at this;exact this
 | @step vs u v m' d h1 h2 ih =>
  have:=Wl.step ih h2
  have e:m+d+m'=m+(d+m'):=by omega
  rw[e] at this;exact this
def Wk.wl {t:Int} {k:Nat} {s d:Int} (h:Wk L t k s d):∃vs,vs.length=k∧Wl L (fun u=>u=s) vs t d:=by
 induction h with
 |nil=>exact⟨[],rfl,.nil rfl⟩
 | @step k v w m d h1 h2 ih =>
  obtain⟨vs,e,h⟩:=ih;exact⟨vs++[v],by simp[e],h.front h1⟩
def al2 {P:Int→Prop} {B:Int} (h:∃d,P d) (hB:∀d,P d→B≤d):∃d,P d∧∀e,P e→d≤e:=by
 obtain⟨d0,h0⟩:=h
 have:∀(n:Nat) (d:Int),P d→(d-B).toNat≤n→∃d,P d∧∀e,P e→d≤e:=by
  intro n
  induction n with
  |zero=>intro d hd hn; exact⟨d,hd,fun e he=>by have:=hB e he; have:=hB d hd; omega⟩
  |succ n ih =>
   intro d hd hn
   by_cases hx:∃e,P e∧e<d
   ·obtain⟨e,he,hl⟩:=hx;exact ih e he (by have:=hB e he; omega)
   ·exact⟨d,hd,fun e he=>by
     rcases gA e d with q|q
     ·exact absurd ⟨e,he,q⟩ hx
     ·exact q⟩
 exact this _ d0 h0 (cO _)
def Wl.cutK {S:Int→Prop} {vs:List Int} {u d:Int} (h:Wl L S vs u d):∀x∈u::vs,∃vs1 d1 k d2,Wl L S vs1 x d1∧(x::vs1) <:+ (u::vs)∧Wk L u k x d2∧d=d1+d2∧k≤vs.length:=by
 induction h with
 | @nil v hv =>
  intro x hx;simp at hx;subst hx;exact⟨[],0,0,0,.nil hv,List.suffix_refl _,.nil,by omega,by simp⟩
 | @step vs u v m d hw hl ih =>
  intro x hx;rcases cZ.1 hx with rfl|hx
  ·exact⟨u::vs,d+m,0,0,.step hw hl,List.suffix_refl _,.nil,by omega,by simp⟩
  ·obtain⟨vs1,d1,k,d2,g1,g2,g3,g4,g5⟩:=ih x hx;exact⟨vs1,d1,k+1,d2+m,g1,g2.trans (List.suffix_cons _ _),g3.snoc hl,by omega,by simp; omega⟩
def Uz (hS:ĺ L N) (hno:ě L N=false):∃(k:Nat) (v d:Int),1≤k∧k≤N∧(0≤v∧v<N)∧Wk L v k v d∧d<0:=by
 have hn:=hS.n60;apply Classical.byContradiction;intro hc
 have hcl:∀{k:Nat} {v d:Int},1≤k→k≤N→(0≤v∧v<N)→Wk L v k v d→0≤d:=fun {k v d} h1 h2 h3 h4=>by
  rcases gA d 0 with q|q
  ·exact absurd ⟨k,v,d,h1,h2,h3,h4,q⟩ hc
  ·exact q
 have hinr:∀l∈L,-4503599627370496≤l.2.2:=fun l hl=>(hS.most l hl).1
 let P:Int→Int→Prop:=fun v d=>∃vs,Wl L (fun u=>0≤u∧u<N) vs v d∧(v::vs).Nodup
 have hP:∀v:Int,0≤v∧v<N→∃d,P v d∧∀e,P v e→d≤e:=fun v hv=>al2 (B:=-(60*4503599627370496)) ⟨0,[],.nil hv,by simp⟩ (by
  rintro d ⟨vs,h1,h2⟩;have q1:=h1.lowM hinr;have q2:=h1.short hS.inr (fun w hw=>hw) h2
  have:((vs.length:Nat):Int)*4503599627370496≤60*4503599627370496:=by omega
  omega)
 have ho:ě L N=true:=by
  refine(Ŏ hS.links (by omega)).2 ⟨fun v=>if hv:0≤v∧v<(N:Int) then Classical.choose (hP v hv) else 0,fun u v m hl=>?_⟩;have hr:=hS.inr _ hl;dsimp only at hr;obtain⟨⟨vs,hw,hnd⟩,hu2⟩:=Classical.choose_spec (hP u hr.1);obtain⟨_,hv2⟩:=Classical.choose_spec (hP v hr.2);have e1:(if hv:0≤u∧u<(N:Int) then Classical.choose (hP u hv) else 0)=Classical.choose (hP u hr.1):=dif_pos hr.1;have e2:(if hv:0≤v∧v<(N:Int) then Classical.choose (hP v hv) else 0)=Classical.choose (hP v hr.2):=dif_pos hr.2;dsimp only;rw[e1,e2];generalize Classical.choose (hP u hr.1)=a at *;generalize Classical.choose (hP v hr.2)=b at *
  by_cases hv:v∈u::vs
  ·obtain⟨vs1,d1,k,d2,g1,g2,g3,g4,g5⟩:=hw.cutK v hv;have hlen:=hw.short hS.inr (fun w hw=>hw) hnd;have:=hcl (by omega) (by omega) hr.2 (g3.snoc hl);have:=hv2 d1 ⟨vs1,g1,hnd.sublist g2.sublist⟩;omega
  ·have:=hv2 (a+m) ⟨u::vs,hw.step hl,fS.2 ⟨hv,hnd⟩⟩;omega
 rw[hno] at ho;cases ho
end
def ahE {b:ß} (h:In b) (n:Int×Int) (upper:Bool):In (pb b n upper).1.1:=by
 have h0:In kQ:=⟨⟨by simp[kQ],by simp[kQ],by simp[kQ],by simp[kQ],by simp[kQ],by simp[kQ]⟩,by simp[kQ]⟩;unfold pb
 by_cases e:(Ą b [n]).2=0
 ·rw[if_neg (by simp[e])];have hr:=(kU h e).1
  split
  ·exact h0
  ·split
   ·exact anl (hr.good.inn hr.num) _ (by simp)
   ·exact h0
 ·rw[if_pos e]; exact h0
def y1:H5 exB (2,10)=((984,1011),0):=by decide +kernel
def y2:H5 exB (1,30)=((964,1005),0):=by decide +kernel
def y3:Y6 exB (1,10) (2,10)=((-6,11),0):=by decide +kernel
def y4:aoA exB 10 [1,2]=((1979,2018),0):=by decide +kernel
def y5:ak7 exB (2,0) (990,1010)=(3,0):=by decide +kernel
def y6:(pb exB (2,10) true).2=0∧(pb exB (2,10) true).1.2.2.2.1=1011:=by decide +kernel
def y7:agr exB (2,10) exC=(10,0):=by decide +kernel
def y8:m9 exB (2,10) (900,1100) exC=(true,0):=by decide +kernel
def y9:aeU exB (pb exB (2,10) true).1=(true,0):=by decide +kernel
def y10:ä exB=0∧ě (á exB) ((Ì exB).length+1)=true:=by decide +kernel
def y11:pz (pb exB (2,10) true).1=0:=by decide +kernel
def agM:Ņ=some true:=by
 unfold Ņ C9 zy xK;have hc:=ahE zH (2,10) true
 have hv:I64 (pb exB (2,10) true).1.2.2.2.1:=by rw[y6.2]; unfold I64; omega
 rw[À];rw[show((((0:Int),(2:Int)),[((1:Int),(0:Int),(1000:Int),((-5:Int),(5:Int)),((1:Int),(10:Int)),(1:Int)),((2:Int),(0:Int),(1000:Int),((-50:Int),(50:Int)),((1:Int),(4:Int)),(0:Int))],[((1:Int),(10:Int))],[((1:Int),((20:Int),(29:Int)),(3:Int))],[((7:Int),(10:Int),[(1:Int)],[(2:Int)],(-20:Int),(1:Int),(100:Int),(200:Int))],([]:List (Int×Int))):ß)=exB from rfl];rw[RS zH,À,RS zH,À,ah2 zH,À,aoz zH _ (by decide),À,am6 zH,À,ah1 zH,À,y1,y2,y3,y4,y5,y6.1,y6.2]
 rw[show zC exB ((2:Int),(10:Int)) ((8:Int),(10:Int),[(1:Int)],[(2:Int)],(0:Int),(0:Int),(0:Int),(0:Int))=some (agr exB (2,10) exC) from amV zH _ (c:=exC) (by decide) (by decide),
  show mK exB ((2:Int),(10:Int)) ((900:Int),(1100:Int)) ((8:Int),(10:Int),[(1:Int)],[(2:Int)],(0:Int),(0:Int),(0:Int),(0:Int))=some (m9 exB (2,10) (900,1100) exC) from VE zH _ _ (c:=exC) (by decide) (by decide),
  akN zH hc hv,ade ((ð _).1 y10.1) zH.num y10.2,LS hc hv,y7,y8,y9,y11]
 rfl
theorem NP {L:List Lk} {N:Nat} {v:Int} (h0:0≤v) (h1:v<N):gv (solP L N) v=gv (Ħ L N) v-gv (Ħ L N) 0:=by
 have hl:(Ħ L N).length=N:=by unfold Ħ; rw[ù,æ]
 have h2:v.toNat<(Ħ L N).length:=by omega
 unfold solP;generalize gv (Ħ L N) 0=z;unfold gv;rw[List.getElem?_map,List.getElem?_eq_getElem h2];rfl
theorem alA {L:List Lk} {N:Nat} (h:ĺ L N) (ho:ě L N=true):Pot L (gv (solP L N))∧gv (solP L N) 0=0:=by
 have h2:=h.n60;have h1:=h.n1;obtain⟨p,hp⟩:=(Ŏ h.links (by omega)).1 ho;refine⟨fun u v m hl=>?_,by rw[NP (by omega) (by omega)]; omega⟩;have hr:=h.inr _ hl
 have hlen:(Ħ L N).length=N:=by unfold Ħ; rw[ù,æ]
 have hu:gv (Ħ L N) u≤0:=(VP h.links (by omega) ho _ (List.mem_of_getElem? (Va (by omega)))).2;have:=(zX h.links (by omega) hp).pot h.inr hl (by show gv (Ħ L N) u≠ĭ; unfold ĭ; omega);have e1:=NP (L:=L) hr.1.1 hr.1.2;have e2:=NP (L:=L) hr.2.1 hr.2.2;dsimp only at e1 e2;have e:gv (Ħ L N) v≤gv (Ħ L N) u+m:=this;omega
section
variable {B:ß} (h:anw B)
include h
end
def RX (N:Nat) (g:Int→Int):List Int:=(List.range N).map fun(v:Nat)=>g v
def AZ (N:Nat) (f:Int→Int→Int):List (List Int):=(List.range N).map fun(u:Nat)=>RX N (f u)
section
variable {N:Nat} {ρ:Type}
def alI (g:Int→Int):(RX N g).length=N:=by simp[RX]
def alv (f:Int→Int→Int):(AZ N f).length=N:=by simp[AZ]
def oC (g:Int→Int):ą (RX N g)=(N:Int):=by unfold ą; rw[alI]
def uR (f:Int→Int→Int):ą (AZ N f)=(N:Int):=by unfold ą; rw[alv]
def afn (g:Int→Int) {v:Int} (h0:0≤v) (h1:v<N):(RX N g)[v.toNat]?=some (g v):=by
 unfold RX;rw[List.getElem?_map,List.getElem?_range (by omega),Option.map_some,show((v.toNat:Nat):Int)=v by omega]
def afg (f:Int→Int→Int) {u:Int} (h0:0≤u) (h1:u<N):(AZ N f)[u.toNat]?=some (RX N (f u)):=by
 unfold AZ;rw[List.getElem?_map,List.getElem?_range (by omega),Option.map_some,show((u.toNat:Nat):Int)=u by omega]
def qO (f:Int→Int→Int) {u:Int} (h0:0≤u) (h1:u<N) (K:List Int→Option ρ):Ķ (AZ N f) u.toNat K=K (RX N (f u)):=oD (afg f h0 h1) K
def mS (g:Int→Int) {v:Int} (h0:0≤v) (h1:v<N) (K:Int→Option ρ):Ķ (RX N g) v.toNat K=K (g v):=oD (afn g h0 h1) K
def VU {g g':Int→Int} (h:∀v:Int,0≤v→v<N→g v=g' v):RX N g=RX N g':=by
 unfold RX;refine List.map_congr_left fun v hv=>?_;have:=List.mem_range.1 hv;exact h v (by omega) (by omega)
def rW {f f':Int→Int→Int} (h:∀u v:Int,0≤u→u<N→0≤v→v<N→f u v=f' u v):AZ N f=AZ N f':=by
 unfold AZ;refine List.map_congr_left fun u hu=>?_;have:=List.mem_range.1 hu;exact VU fun v h0 h1=>h u v (by omega) (by omega) h0 h1
def aio {α:Type} (F:Nat→α) (N i:Nat) (x:α):((List.range N).map F).set i x=(List.range N).map fun j=>if j=i then x else F j:=by
 refine List.ext_getElem? fun j=>?_;rw[fV,fH,fH];rcases du j N with hj|hj
 ·rw[fj hj]
  by_cases h:i=j
  ·subst h;rw[if_pos rfl,if_pos (by simpa using hj)];simp
  ·rw[if_neg h];simp[Ne.symm h]
 ·rw[fR (l:=List.range N) (by simpa using hj)]
  by_cases h:i=j
  ·subst h;rw[if_pos rfl,if_neg (by simp; omega)];rfl
  ·rw[if_neg h];rfl
def ada (g:Int→Int) {v:Int} (h0:0≤v) (x:Int):(RX N g).set v.toNat x=RX N fun b=>if b=v then x else g b:=by
 unfold RX;rw[aio];refine List.map_congr_left fun j _=>?_
 by_cases h:j=v.toNat
 ·rw[if_pos h]; exact(if_pos (by omega)).symm
 ·rw[if_neg h]; exact(if_neg (by omega)).symm
def ain (f:Int→Int→Int) {u v:Int} (h0:0≤u) (h1:0≤v) (x:Int):(AZ N f).set u.toNat ((RX N (f u)).set v.toNat x)=AZ N fun a b=>if a=u∧b=v then x else f a b:=by
 rw[ada _ h1];unfold AZ;rw[aio];refine List.map_congr_left fun j _=>?_
 by_cases h:j=u.toNat
 ·have hj:(j:Int)=u:=by omega
  rw[if_pos h,hj];congr 1;funext b
  by_cases hb:b=v<;>simp[hb]
 ·rw[if_neg h];congr 1;funext b;exact(if_neg (by omega)).symm
end
inductive WI (L:List Lk) (k u:Int):Int→Int→Prop
 |nil:WI L k u u 0
 |one {v m:Int}:(u,v,m)∈L→WI L k u v m
 |step {w v d m:Int}:WI L k u w d→0≤w→w<k→(w,v,m)∈L→WI L k u v (d+m)
section
variable {L:List Lk} {N:Nat} {k u:Int}
def WI.mono {k':Int} (hk:k≤k') {v d:Int} (h:WI L k u v d):WI L k' u v d:=by
 induction h with
 |nil=>exact .nil
 |one h=>exact .one h
 |step _ h0 h1 h2 ih=>exact ih.step h0 (by omega) h2
def WI.app {w v d e:Int} (h1:WI L k u w d) (h2:WI L k w v e) (h0:0≤w) (hk:w<k):WI L k u v (d+e):=by
 induction h2 with
 |nil=>rw[gh]; exact h1
 |one h=>exact h1.step h0 hk h
 | @step x v e m _ g0 g1 g2 ih =>
  have:=ih.step g0 g1 g2;rw[Int.add_assoc] at this;exact this
def WI.wl {v d:Int} (h:WI L k u v d):∃vs,Wl L (fun x=>x=u) vs v d:=by
 induction h with
 |nil=>exact⟨[],.nil rfl⟩
 | @one v m h =>
  have:=Wl.step (Wl.nil (L:=L) (S:=fun x=>x=u) rfl) h;rw[Int.zero_add] at this;exact⟨_,this⟩
 |step _ _ _ h2 ih =>
  obtain⟨vs,h⟩:=ih;exact⟨_,h.step h2⟩
def WI.of_wl (hL:InR L N) (hk:(N:Int)≤k) {vs:List Int} {v d:Int} (h:Wl L (fun x=>x=u) vs v d):WI L k u v d:=by
 induction h with
 |nil h =>
  obtain rfl:=h;exact .nil
 | @step vs w v m d _ h2 ih =>
  have:=(hL _ h2).1;exact ih.step this.1 (by dsimp only at this; omega) h2
def WI.of_wk (hL:InR L N) (hk:(N:Int)≤k) {n:Nat} {v d:Int} (h:Wk L v n u d):WI L k u v d:=by
 obtain⟨vs,_,h⟩:=h.wl;exact .of_wl hL hk h
def Wl.shorten {S:Int→Prop} {vs:List Int} {v d:Int} (h:Wl L S vs v d):∃vs' d',Wl L S vs' v d'∧(v::vs').Nodup:=by
 have h1:∀{vs:List Int} {v d:Int},Wl L S vs v d→Wl (L.map fun l=>(l.1,l.2.1,0)) S vs v 0:=fun h=>by
  induction h with
  |nil h=>exact .nil h
  | @step vs w v m d _ h2 ih =>
   have:=ih.step (v:=v) (m:=0) (dR.2 ⟨_,h2,rfl⟩);exact this
 have h2:∀{vs:List Int} {v d:Int},Wl (L.map fun l=>(l.1,l.2.1,0)) S vs v d→∃d',Wl L S vs v d':=fun h=>by
  induction h with
  |nil h=>exact⟨0,.nil h⟩
  | @step vs w v m d _ h2 ih =>
   obtain⟨d',h⟩:=ih;obtain⟨l,hl,e⟩:=dR.1 h2;obtain⟨a,b,c⟩:=l;simp only[Prod.mk.injEq] at e;obtain⟨rfl,rfl,rfl⟩:=e;exact⟨_,h.step hl⟩
 obtain⟨vs',d',g1,_,g3⟩:=(h1 h).simple (p:=fun _=>0) (fun a b m hm=>by
  obtain⟨l,_,e⟩:=List.mem_map.1 hm;simp only[Prod.mk.injEq] at e;dsimp only
  omega)
 obtain⟨d'',g4⟩:=h2 g1;exact⟨vs',d'',g4,g3⟩
def agO (L:List Lk) (k u v:Int):List Lk:=L.filter fun l=>(l.1==u||(decide (0≤l.1)&&decide (l.1<k)))&&(l.2.1==v||(decide (0≤l.2.1)&&decide (l.2.1<k)))
def sU {v:Int} {l:Lk}:l∈agO L k u v↔l∈L∧(l.1=u∨(0≤l.1∧l.1<k))∧(l.2.1=v∨(0≤l.2.1∧l.2.1<k)):=by
 unfold agO;rw[List.mem_filter];simp
def WI.rest (v:Int) {w d:Int} (h:WI L k u w d):(w=v∨(0≤w∧w<k))→∃vs,Wl (agO L k u v) (fun x=>x=u) vs w d:=by
 induction h with
 |nil=>exact fun _=>⟨[],.nil rfl⟩
 | @one w m h =>
  intro hw;have:=Wl.step (Wl.nil (L:=agO L k u v) (S:=fun x=>x=u) rfl) (sU.2 ⟨h,.inl rfl,hw⟩);rw[Int.zero_add] at this;exact⟨_,this⟩
 | @step x w d m _ h0 h1 h2 ih =>
  intro hw;obtain⟨vs,h⟩:=ih (.inr ⟨h0,h1⟩);exact⟨_,h.step (sU.2 ⟨h2,.inr ⟨h0,h1⟩,hw⟩)⟩
def WI.of_rest {v:Int} {vs:List Int} {w d:Int} (h:Wl (agO L k u v) (fun x=>x=u) vs w d):v∉vs→WI L k u w d:=by
 induction h with
 |nil h =>
  obtain rfl:=h;exact fun _=>.nil
 | @step vs x w m d h1 h2 ih =>
  intro hv;obtain⟨g1,g2,g3⟩:=sU.1 h2;have ih':=ih fun h=>hv (by simp[h]);have hxv:x≠v:=fun e=>hv (by simp[e])
  cases h1 with
  |nil h =>
   obtain rfl:=h;rw[Int.zero_add];exact .one g1
  |step h3 h4 =>
   obtain⟨_,_,g4⟩:=sU.1 h4;rcases g4 with g4|g4
   ·exact absurd g4 hxv
   ·exact ih'.step g4.1 g4.2 g1
def WI.high (hS:ĺ L N) {v d:Int} (hu:0≤u∧u<N) (h:WI L k u v d):∃d',WI L k u v d'∧d'≤270215977642229760:=by
 have hn:=hS.n60;obtain⟨vs,hw⟩:=h.rest v (.inl rfl);obtain⟨vs',d',h1,h2⟩:=hw.shorten;have hin:InR (agO L k u v) N:=fun l hl=>hS.inr l (sU.1 hl).1;have hlen:=h1.short hin (fun w hw=>by rw[hw]; exact hu) h2;have hhi:=h1.high (M:=4503599627370496) fun l hl=>(hS.most l (sU.1 hl).1).2;refine⟨d',.of_rest h1 (fS.1 h2).1,?_⟩;omega
def ahc (L:List Lk) (k:Int):List Lk:=L.filter fun l=>decide (l.1<k)&&decide (l.2.1<k)
def Yg {l:Lk}:l∈ahc L k↔l∈L∧l.1<k∧l.2.1<k:=by
 unfold ahc;rw[List.mem_filter];simp
def afN (hS:ĺ L N):ĺ (ahc L k) N:=hS.sub (fun l hl=>(Yg.1 hl).1) (dG _ _)
def WI.of_low (hS:ĺ L N) {v d:Int} {n:Nat} (h:Wk (ahc L k) v n u d):WI L k u v d:=by
 obtain⟨vs,_,hw⟩:=h.wl;clear h;rename_i hlen;clear hlen
 induction hw with
 |nil h =>
  obtain rfl:=h;exact .nil
 | @step vs w v m d _ h2 ih =>
  obtain⟨g1,g2,g3⟩:=Yg.1 h2;have:=(hS.inr _ g1).1;exact ih.step this.1 g2 g1
def alX (hS:ĺ L N) (hc:∀v d:Int,0≤v→v<N→WI L k v v d→0≤d):ě (ahc L k) N=true:=by
 cases ho:ě (ahc L k) N with
 |true=>rfl
 |false =>
  obtain⟨n,v,d,_,_,h3,h4,h5⟩:=Uz (afN hS) ho;have:=hc v d h3.1 h3.2 (.of_low hS h4);omega
def WI.low (hS:ĺ L N) (hc:∀v d:Int,0≤v→v<N→WI L k v v d→0≤d) {v d:Int} (h:WI L k u v d) : -2314850208468434944≤d:=by
 have hn:=hS.n60;have ho:=alX hS hc;have hs:=afN (k:=k) hS;have hbd:=VP hs.links (by omega) ho;obtain⟨hp,_⟩:=alA hs ho
 let p:Int→Int:=fun v=>if 0≤v∧v<N then gv (Ħ (ahc L k) N) v else 0
 have hlen:(Ħ (ahc L k) N).length=N:=by unfold Ħ; rw[ù,æ]
 have hpb:∀v,-2305843009213693952≤p v∧p v≤0:=fun v=>by
  show -2305843009213693952≤(if 0≤v∧v<N then gv (Ħ (ahc L k) N) v else 0)∧(if 0≤v∧v<N then gv (Ħ (ahc L k) N) v else 0)≤0
  split
  ·rename_i hv;exact hbd _ (cY (Va (by omega)))
  ·omega
 have hpp:∀a b m,(a,b,m)∈ahc L k→p b≤p a+m:=fun a b m hl=>by
  have hr:=hs.inr _ hl;dsimp only at hr;have:=hp a b m hl;rw[NP hr.1.1 hr.1.2,NP hr.2.1 hr.2.2] at this;show(if 0≤b∧b<N then gv (Ħ (ahc L k) N) b else 0)≤(if 0≤a∧a<N then gv (Ħ (ahc L k) N) a else 0)+m;rw[if_pos hr.1,if_pos hr.2];omega
 have key:∀{v d:Int},WI L k u v d→(v<k→p v-4503599627370496≤d)∧-2314850208468434944≤d:=fun {v d} h=>by
  induction h with
  |nil=>have:=hpb u; exact⟨fun _=>by omega,by omega⟩
  | @one v m h =>
   have:=hpb v;have:=(hS.most _ h).1;dsimp only at this;exact⟨fun _=>by omega,by omega⟩
  | @step w v d m _ h0 h1 h2 ih =>
   have hm:=(hS.most _ h2).1;dsimp only at hm;have hi:=ih.1 h1;have hw:=hpb w;refine⟨fun hv=>?_,by omega⟩;have:=hpp w v m (Yg.2 ⟨h2,h1,hv⟩);omega
 exact(key h).2
def lkF (f:Int→Int→Int) (l:Lk):Int→Int→Int:=fun a b=>if a=l.1∧b=l.2.1 then min (f l.1 l.2.1) l.2.2 else f a b
def aes (a b:Int):Int:=if a=b then 0 else ĭ
def upF (f:Int→Int→Int) (k:Int):Int→Int→Int:=fun a b=>if f a k=ĭ then f a b else if f k b=ĭ then f a b else min (f a b) (f a k+f k b)
def fw (L:List Lk):Nat→Int→Int→Int
 |0=>L.foldl lkF aes
 |k+1=>upF (fw L k) k
def Vg (a b:Int):∀(M:List Lk) (f:Int→Int→Int),(M.foldl lkF f) a b≤f a b∧(∀m,(a,b,m)∈M→(M.foldl lkF f) a b≤m)∧((M.foldl lkF f) a b=f a b∨∃m,(a,b,m)∈M∧(M.foldl lkF f) a b=m)
 |[],f=>⟨dJ _,fun _ h=>by simp at h,.inl rfl⟩
 |l::M,f=>by
  rw[f5];obtain⟨i1,i2,i3⟩:=Vg a b M (lkF f l)
  have key:lkF f l a b≤f a b∧((a=l.1∧b=l.2.1)→lkF f l a b≤l.2.2)∧(lkF f l a b=f a b∨((a=l.1∧b=l.2.1)∧lkF f l a b=l.2.2)):=by
   unfold lkF
   by_cases h:a=l.1∧b=l.2.1
   ·rw[if_pos h,h.1,h.2];refine⟨by omega,fun _=>by omega,?_⟩
    by_cases hc:f l.1 l.2.1≤l.2.2
    ·exact .inl (by omega)
    ·exact .inr ⟨⟨rfl,rfl⟩,by omega⟩
   ·rw[if_neg h];exact⟨dJ _,fun h'=>absurd h' h,.inl rfl⟩
  obtain⟨k1,k2,k3⟩:=key;refine⟨by omega,fun m hm=>?_,?_⟩
  ·rcases cZ.1 hm with h|h
   ·subst h;have:=k2 ⟨rfl,rfl⟩;dsimp only at this;omega
   ·exact i2 m h
  ·rcases i3 with h|⟨m,h,e⟩
   ·rcases k3 with h'|⟨⟨h1,h2⟩,h'⟩
    ·exact .inl (h.trans h')
    ·exact .inr ⟨l.2.2,by rw[h1,h2]; simp,h.trans h'⟩
   ·exact .inr ⟨m,by simp[h],e⟩
structure Tab (L:List Lk) (N:Nat) (k:Nat) (f:Int→Int→Int):Prop where
 att:∀a b:Int,0≤a→a<N→0≤b→b<N→f a b≠ĭ→WI L k a b (f a b)
 le:∀a b s:Int,0≤a→a<N→0≤b→b<N→WI L k a b s→f a b≤s∧f a b≠ĭ
 diag:∀a:Int,0≤a→a<N→f a a=0
def Tab.closed {f:Int→Int→Int} {k:Nat} (h:Tab L N k f):∀v d:Int,0≤v→v<N→WI L k v v d→0≤d:=fun v d h0 h1 hw=>by
 have:=(h.le v v d h0 h1 h0 h1 hw).1;rw[h.diag v h0 h1] at this;exact this
def Tab.bd (hS:ĺ L N) {f:Int→Int→Int} {k:Nat} (h:Tab L N k f) {a b:Int} (ha:0≤a∧a<N) (hb:0≤b∧b<N) (hf:f a b≠ĭ) : -2314850208468434944≤f a b∧f a b≤270215977642229760:=by
 have hw:=h.att a b ha.1 ha.2 hb.1 hb.2 hf;obtain⟨d,hd,hle⟩:=hw.high hS ha;have:=(h.le a b d ha.1 ha.2 hb.1 hb.2 hd).1;exact⟨hw.low hS h.closed,by omega⟩
def alu (hS:ĺ L N):Tab L N 0 (fw L 0):=by
 have key:∀a b,(fw L 0 a b≤aes a b)∧(∀m,(a,b,m)∈L→fw L 0 a b≤m)∧(fw L 0 a b=aes a b∨∃m,(a,b,m)∈L∧fw L 0 a b=m):=fun a b=>Vg a b L aes;refine⟨fun a b ha ha' hb hb' hf=>?_,fun a b s ha ha' hb hb' hw=>?_,fun a ha ha'=>?_⟩
 ·rcases(key a b).2.2 with h|⟨m,h,e⟩
  ·rw[h] at hf ⊢;unfold aes at hf ⊢
   by_cases hab:a=b
   ·subst hab; rw[if_pos rfl]; exact .nil
   ·rw[if_neg hab] at hf; exact absurd rfl hf
  ·rw[e]; exact .one h
 ·have hs:fw L 0 a b≤s∧s≤4503599627370496:=by
   cases hw with
   |nil =>
    have:=(key a a).1;unfold aes at this;rw[if_pos rfl] at this;omega
   |one h=>exact⟨(key a b).2.1 _ h,(hS.most _ h).2⟩
   |step _ h0 h1 _=>omega
  refine⟨hs.1,fun hF=>?_⟩;rw[hF] at hs;unfold ĭ at hs;omega
 ·rcases(key a a).2.2 with h|⟨m,h,e⟩
  ·rw[h]; unfold aes; rw[if_pos rfl]
  ·exact absurd rfl (hS.noloop _ h)
def aff (hS:ĺ L N) {k:Nat} (hk:k<N) {f:Int→Int→Int} (h:Tab L N k f) :
 (∀a b:Int,0≤a→a<N→0≤b→b<N→upF f k a b≠ĭ→WI L ((k+1:Nat):Int) a b (upF f k a b)) ∧
 (∀a b s:Int,0≤a→a<N→0≤b→b<N→WI L ((k+1:Nat):Int) a b s→upF f k a b≤s∧upF f k a b≠ĭ) ∧
 (∀a:Int,0≤a→a<N→upF f k a a≤0):=by
 have hk0:(0:Int)≤k∧(k:Int)<N:=by omega
 -- the element that a pass gives
 have cases3:∀a b:Int,upF f k a b=f a b∨(f a k≠ĭ∧f k b≠ĭ∧upF f k a b=f a k+f k b):=fun a b=>by
  unfold upF
  by_cases h1:f a k=ĭ
  ·rw[if_pos h1]; exact .inl rfl
  rw[if_neg h1]
  by_cases h2:f k b=ĭ
  ·rw[if_pos h2]; exact .inl rfl
  rw[if_neg h2]
  by_cases h3:f a b≤f a k+f k b
  ·exact .inl (by omega)
  ·exact .inr ⟨h1,h2,by omega⟩
 have lim:∀a b:Int,0≤a→a<N→0≤b→b<N→f a b≤ĭ:=fun a b h0 h1 h2 h3=>by
  by_cases hf:f a b=ĭ
  ·omega
  ·have:=h.bd hS ⟨h0,h1⟩ ⟨h2,h3⟩ hf; unfold ĭ; omega
 have upper:∀a b:Int,upF f k a b≤f a b∧(f a k≠ĭ→f k b≠ĭ→upF f k a b≤f a k+f k b):=fun a b=>by
  unfold upF
  by_cases h1:f a k=ĭ
  ·rw[if_pos h1]; exact⟨dJ _,fun h'=>absurd h1 h'⟩
  rw[if_neg h1]
  by_cases h2:f k b=ĭ
  ·rw[if_pos h2]; exact⟨dJ _,fun _ h'=>absurd h2 h'⟩
  rw[if_neg h2];exact⟨by omega,fun _ _=>by omega⟩
 have B:=fun(a b:Int) (h0:0≤a) (h1:a<N) (h2:0≤b) (h3:b<N) (hf:f a b≠ĭ)=>h.bd hS ⟨h0,h1⟩ ⟨h2,h3⟩ hf
 -- if there is a walk, the element is told
 have ne:∀a b:Int,0≤a→a<N→0≤b→b<N→(f a b≠ĭ∨(f a k≠ĭ∧f k b≠ĭ))→upF f k a b≠ĭ:=fun a b h0 h1 h2 h3 hc hF=>by
  have hu:=upper a b;rcases hc with hc|⟨hc1,hc2⟩
  ·have:=B a b h0 h1 h2 h3 hc;rw[hF] at hu;unfold ĭ at hu;omega
  ·have b1:=B a k h0 h1 hk0.1 hk0.2 hc1;have b2:=B k b hk0.1 hk0.2 h2 h3 hc2;have:=hu.2 hc1 hc2;rw[hF] at this;unfold ĭ at this;omega
 have colk:∀a:Int,0≤a→a<N→upF f k a k=f a k:=fun a h0 h1=>by
  have hd:=h.diag k hk0.1 hk0.2;unfold upF;rw[hd]
  split
  ·rfl
  ·rw[if_neg (by decide)]; omega
 refine⟨fun a b h0 h1 h2 h3 hf=>?_,fun a b s h0 h1 h2 h3 hw=>?_,fun a h0 h1=>?_⟩
 ·rcases cases3 a b with e|⟨e1,e2,e⟩
  ·rw[e] at hf ⊢;exact(h.att a b h0 h1 h2 h3 hf).mono (by omega)
  ·rw[e];exact((h.att a k h0 h1 hk0.1 hk0.2 e1).mono (by omega)).app ((h.att k b hk0.1 hk0.2 h2 h3 e2).mono (by omega)) hk0.1 (by omega)
 ·-- by the walk
  have main:∀{v s:Int},WI L ((k+1:Nat):Int) a v s→(0≤v∧v<N)→upF f k a v≤s∧(f a v≠ĭ∨(f a k≠ĭ∧f k v≠ĭ)):=fun {v s} hw=>by
   induction hw with
   |nil =>
    intro hv;have:=h.le a a 0 hv.1 hv.2 hv.1 hv.2 .nil;exact⟨by have:=(upper a a).1; omega,.inl this.2⟩
   | @one v m hl =>
    intro hv;have:=h.le a v m h0 h1 hv.1 hv.2 (.one hl);exact⟨by have:=(upper a v).1; omega,.inl this.2⟩
   | @step w v d m _ g0 g1 g2 ih =>
    intro hv;have hwr:=(hS.inr _ g2).1;dsimp only at hwr;obtain⟨i1,i2⟩:=ih hwr;have hone:=h.le w v m hwr.1 hwr.2 hv.1 hv.2 (.one g2)
    by_cases hwk:w=k
    ·subst hwk;rw[colk a h0 h1] at i1
     have hak:f a k≠ĭ:=by
      rcases i2 with i2|i2
      ·exact i2
      ·exact i2.1
     have:=(upper a v).2 hak hone.2;exact⟨by omega,.inr ⟨hak,hone.2⟩⟩
    ·have hlt:w<k:=by push_cast at g1; omega
     -- one link Ø of a walk by nodes below k
     have ext:∀x:Int,0≤x→x<N→f x w≠ĭ→f x v≤f x w+m∧f x v≠ĭ:=fun x hx0 hx1 hf =>
      h.le x v _ hx0 hx1 hv.1 hv.2 ((h.att x w hx0 hx1 hwr.1 hwr.2 hf).step hwr.1 hlt g2)
     rcases cases3 a w with e|⟨e1,e2,e⟩
     ·have hne:f a w≠ĭ:=by
       rcases i2 with i2|⟨i2,i3⟩
       ·exact i2
       ·intro hF;rw[hF] at e;exact ne a w h0 h1 hwr.1 hwr.2 (.inr ⟨i2,i3⟩) e
      have:=ext a h0 h1 hne;exact⟨by have:=(upper a v).1; omega,.inl this.2⟩
     ·have:=ext k hk0.1 hk0.2 e2;have:=(upper a v).2 e1 this.2;exact⟨by omega,.inr ⟨e1,(ext k hk0.1 hk0.2 e2).2⟩⟩
  obtain⟨m1,m2⟩:=main hw ⟨h2,h3⟩;exact⟨m1,ne a b h0 h1 h2 h3 m2⟩
 ·have:=(upper a a).1;have:=h.diag a h0 h1;omega
def wi_pot {p:Int→Int} (hp:Pot L p) {v d:Int} (h:WI L k u v d):p v≤p u+d:=by
 induction h with
 |nil=>omega
 |one h=>exact hp _ _ _ h
 |step _ _ _ h2 ih=>have:=hp _ _ _ h2; omega
def fw_all (hS:ĺ L N):(∃k:Nat,k<N∧Tab L N k (fw L k)∧(∃a:Int,0≤a∧a<N∧fw L (k+1) a a<0)∧∀j,j≤k→Tab L N j (fw L j))∨∀k:Nat,k≤N→Tab L N k (fw L k):=by
 have:∀k:Nat,k≤N→(∃j:Nat,j<k∧Tab L N j (fw L j)∧(∃a:Int,0≤a∧a<N∧fw L (j+1) a a<0)∧∀i,i≤j→Tab L N i (fw L i))∨∀i,i≤k→Tab L N i (fw L i):=by
  intro k
  induction k with
  |zero=>exact fun _=>.inr fun i hi=>by have h0:i=0:=(by omega); subst h0; exact alu hS
  |succ k ih =>
   intro hk;rcases ih (by omega) with⟨j,h1,h2⟩|h
   ·exact .inl ⟨j,by omega,h2⟩
   ·have hT:=h k (cO _);obtain⟨s1,s2,s3⟩:=aff hS (by omega) hT
    by_cases hb:∃a:Int,0≤a∧a<N∧fw L (k+1) a a<0
    ·exact .inl ⟨k,by omega,hT,hb,h⟩
    ·refine .inr fun i hi=>?_;rcases Nat.lt_or_eq_of_le hi with hi|rfl
     ·exact h i (by omega)
     ·refine⟨s1,s2,fun a h0 h1=>?_⟩;have:=s3 a h0 h1;rcases gA (fw L (k+1) a a) 0 with q|q
      ·exact absurd ⟨a,h0,h1,q⟩ hb
      ·have e:fw L (k+1) a a=upF (fw L k) k a a:=rfl;omega
 rcases this N (cO _) with⟨j,h1,h2⟩|h
 ·exact .inl ⟨j,h1,h2⟩
 ·exact .inr h
def amd (hS:ĺ L N) {j:Nat} (hj:j<N) (hT:Tab L N j (fw L j)) (hb:∃a:Int,0≤a∧a<N∧fw L (j+1) a a<0):ě L N=false:=by
 have hn:=hS.n60;obtain⟨a,h0,h1,h2⟩:=hb;rw[Bool.eq_false_iff];intro ho;obtain⟨p,hp⟩:=(Ŏ hS.links (by omega)).1 ho;obtain⟨s1,_,_⟩:=aff hS hj hT;have e:fw L (j+1) a a=upF (fw L j) j a a:=rfl;rw[e] at h2;have:=wi_pot hp (s1 a a h0 h1 h0 h1 (by unfold ĭ; omega));omega
def ajF (hS:ĺ L N) (hT:Tab L N N (fw L N)):ě L N=true:=by
 cases ho:ě L N with
 |true=>rfl
 |false =>
  obtain⟨n,v,d,_,_,h3,h4,h5⟩:=Uz hS ho;have:=hT.closed v d h3.1 h3.2 (.of_wk hS.inr (dJ _) h4);omega
def fw_dst (hS:ĺ L N) (ht:HZ L N) (hT:Tab L N N (fw L N)) {a b:Int} (ha:0≤a∧a<N) (hb:0≤b∧b<N):fw L N a b=dst L N a b:=by
 have ho:=ajF hS hT;obtain⟨vs,hw⟩:=amm hS ht ho ha hb;obtain⟨h1,h2⟩:=hT.le a b _ ha.1 ha.2 hb.1 hb.2 (.of_wl hS.inr (dJ _) hw);obtain⟨vs',hw'⟩:=(hT.att a b ha.1 ha.2 hb.1 hb.2 h2).wl;have:=aoe hS ho ha hw';omega
end
section
variable {ρ:Type} {L:List Lk} {N:Nat}
def als (hN:N≤60) {u:Int} (hu:0≤u∧u<N) (K:List Int→Option ρ) :
 Ñ (fun(v7:Int×List Int) kk10=>lu (N:Int) u v7.1 v7.2 (fun u8 u9=>kk10 (u8,u9)) K) ((0:Int),List.replicate N (0:Int))=K (RX N (aes u)):=by
 refine ñ (List.replicate N ()) (fun i=>RX N fun b=>if b<i then aes u b else 0) _ ?_ (fun i a hi ha kn=>?_) (fun kn=>?_)
 ·unfold RX;refine List.ext_getElem? fun j=>?_;rw[List.getElem?_map,List.getElem?_replicate]
  by_cases hj:j<N
  ·rw[fj hj,if_pos hj];simp only[dP];rw[if_neg (by omega)]
  ·rw[fR (by simpa using hj),if_neg hj];rfl
 ·try dsimp only
  unfold lu;rw[List.length_replicate] at hi;have e0:ĭ=(1152921504606846976:Int):=rfl;rw[Õ (decide_eq_true (by omega)),oC,Ĩ (by omega) (by omega),mS _ (by omega) (by omega),ada _ (by omega)]
  by_cases h:u=(i:Int)
  ·rw[Õ (beq_iff_eq.2 h),oC,Ĩ (by omega) (by omega),mS _ (by omega) (by omega),Ó (by omega) (by omega),ada _ (by omega)];congr 1;refine VU fun v h0 h1=>?_
   by_cases hv:v=(i:Int)
   ·rw[if_pos hv,if_pos (by push_cast; omega)]; unfold aes; rw[if_pos (by omega)]
   ·rw[if_neg hv,if_neg hv]
    by_cases h2:v<(i:Int)
    ·rw[if_pos h2,if_pos (by push_cast; omega)]
    ·rw[if_neg h2,if_neg (by push_cast; omega)]
  ·rw[Ò (beq_eq_false_iff_ne.2 h),Ó (by omega) (by omega)];congr 1;refine VU fun v h0 h1=>?_
   by_cases hv:v=(i:Int)
   ·rw[if_pos hv,if_pos (by push_cast; omega)]; unfold aes; rw[if_neg (by omega),e0]
   ·rw[if_neg hv]
    by_cases h2:v<(i:Int)
    ·rw[if_pos h2,if_pos (by push_cast; omega)]
    ·rw[if_neg h2,if_neg (by push_cast; omega)]
 ·try dsimp only
  unfold lu;rw[List.length_replicate,Ò (decide_eq_false (by omega))];congr 1;exact VU fun v h0 h1=>if_pos h1
def alt (hN:N≤60) (K:List (List Int)→Option ρ) :
 Ñ (fun(v74:Int×List (List Int)) kk77=>lv (N:Int) v74.1 v74.2 (fun u75 u76=>kk77 (u75,u76)) K) ((0:Int),[])=K (AZ N aes):=by
 refine ñ (List.replicate N ()) (fun i=>(List.range i).map fun(u:Nat)=>RX N (aes u)) _ rfl (fun i a hi ha kn=>?_) (fun kn=>?_)
 ·try dsimp only
  unfold lv;rw[List.length_replicate] at hi;rw[Õ (decide_eq_true (by omega)),ħ (by simp[ê]; omega),Int.toNat_natCast];refine(als hN ⟨by omega,by omega⟩ _).trans ?_;rw[ħ (Ö (by simp only[List.length_map,List.length_range,List.length_singleton]; omega)),Ó (by omega) (by omega)];congr 2;rw[List.range_succ,List.map_append];rfl
 ·try dsimp only
  unfold lv;rw[List.length_replicate,Ò (decide_eq_false (by omega))];rfl
def alr (hS:ĺ L N) (K:List (List Int)→Option ρ) :
 Ñ (fun(v70:Int×List (List Int)) kk73=>lr L v70.1 v70.2 (fun u71 u72=>kk73 (u71,u72)) K) ((0:Int),AZ N aes)=K (AZ N (fw L 0)):=by
 have hl3:=hS.len;refine ñ L (fun i=>AZ N ((L.take i).foldl lkF aes)) _ rfl (fun i l hi hl kn=>?_) (fun kn=>?_)
 ·try dsimp only
  unfold lr;have hr:=hS.inr l (List.mem_of_getElem? hl);obtain⟨⟨a0,a1⟩,b0,b1⟩:=hr;rw[Ô hi,Ë hl];simp only[uR,Ĩ a0 a1,qO _ a0 a1,oC,Ĩ b0 b1,mS _ b0 b1];rw[Î hi (by omega),ain _ a0 b0,take_succ hl,List.foldl_append];congr 2;refine rW fun u v _ _ _ _=>?_;simp only[List.foldl_cons,List.foldl_nil,lkF,vV]
 ·try dsimp only
  unfold lr;rw[à,List.take_length];rfl
def alq (hS:ĺ L N) {k:Nat} (hk:k<N) {f:Int→Int→Int} (hT:Tab L N k f) {u:Int} (hu:0≤u∧u<N) (hne:f u k≠ĭ) {g:Int→Int→Int} (hgk:∀b:Int,0≤b→b<N→g k b=f k b) (hgu:∀b:Int,0≤b→b<N→g u b=f u b) (K:List (List Int)→Option ρ) :
 Ñ (fun(v45:Int×List (List Int)) kk48=>lp (k:Int) u (N:Int) v45.1 v45.2 (fun u46 u47=>kk48 (u46,u47)) K) ((0:Int),AZ N g)=K (AZ N fun a b=>if a=u then upF f k a b else g a b):=by
 have hn:=hS.n60
 have hk0:(0:Int)≤k∧(k:Int)<N:=by omega
 have hdk:=hT.diag k hk0.1 hk0.2;have e0:ĭ=(1152921504606846976:Int):=rfl
 have rowk:∀b:Int,upF f k k b=f k b:=fun b=>by
  unfold upF;rw[hdk];rw[if_neg (by decide)]
  split
  ·rfl
  ·omega
 have colk:upF f k u k=f u k:=by
  unfold upF;rw[if_neg hne,hdk,if_neg (by decide)];omega
 refine ñ (List.replicate N ()) (fun i=>AZ N fun a b=>if a=u∧b<i then upF f k a b else g a b) _ ?_ (fun i a hi ha kn=>?_) (fun kn=>?_)
 ·exact rW fun a b _ _ hb _=>if_neg (by omega)
 ·try dsimp only
  unfold lp;rw[List.length_replicate] at hi
  have hi0:(0:Int)≤i∧(i:Int)<N:=by omega
  -- what lies in row k, and in row u at k
  have r1:(if (k:Int)=u∧(i:Int)<i then upF f k k i else g k i)=f k i:=by rw[if_neg (by omega)]; exact hgk i hi0.1 hi0.2
  have r2:(if u=u∧(i:Int)<i then upF f k u i else g u i)=f u i:=by rw[if_neg (by omega)]; exact hgu i hi0.1 hi0.2
  have r3:(if u=u∧(k:Int)<i then upF f k u k else g u k)=f u k:=by
   split
   ·exact colk
   ·exact hgu k hk0.1 hk0.2
  have step:∀x:Int,(fun(a b:Int)=>if a=u∧b=(i:Int) then x else if a=u∧b<(i:Int) then upF f k a b else g a b)=fun a b=>if a=u∧b<((i+1:Nat):Int) then(if b=(i:Int) then x else upF f k a b) else g a b:=fun x=>by
   funext a b
   by_cases h1:a=u
   ·by_cases h2:b=(i:Int)
    ·rw[if_pos ⟨h1,h2⟩,if_pos ⟨h1,by push_cast; omega⟩,if_pos h2]
    ·by_cases h3:b<(i:Int)
     ·rw[if_neg (fun h=>h2 h.2),if_pos ⟨h1,h3⟩,if_pos ⟨h1,by push_cast; omega⟩,if_neg h2]
     ·rw[if_neg (fun h=>h2 h.2),if_neg (fun h=>h3 h.2),if_neg (fun h=>by have:=h.2; push_cast at this; omega)]
   ·rw[if_neg (fun h=>h1 h.1),if_neg (fun h=>h1 h.1),if_neg (fun h=>h1 h.1)]
  rw[Õ (decide_eq_true hi0.2)];simp only[-eq_self,uR,Ĩ hk0.1 hk0.2,qO _ hk0.1 hk0.2,oC,Ĩ hi0.1 hi0.2,mS _ hi0.1 hi0.2,r1]
  by_cases h2:f k i=ĭ
  ·rw[Ò (by rw[h2]; rfl),Ó (by omega) (by omega)];congr 2;refine rW fun a b ha _ hb _=>?_
   by_cases h3:a=u∧b<(i:Int)
   ·rw[if_pos h3,if_pos ⟨h3.1,by push_cast; omega⟩]
   ·rw[if_neg h3]
    by_cases h4:a=u∧b=(i:Int)
    ·rw[if_pos ⟨h4.1,by push_cast; omega⟩,h4.1,h4.2];unfold upF;rw[if_neg hne,if_pos h2];exact hgu i hi0.1 hi0.2
    ·rw[if_neg (fun h=>by have:=h.2; push_cast at this; omega)]
  ·have b1:=hT.bd hS hu hk0 hne;have b2:=hT.bd hS hk0 hi0 h2;rw[Õ (bne_iff_ne.2 h2)];simp only[-eq_self,uR,Ĩ hu.1 hu.2,qO _ hu.1 hu.2,oC,Ĩ hi0.1 hi0.2,mS _ hi0.1 hi0.2,Ĩ hk0.1 hk0.2,mS _ hk0.1 hk0.2,qO _ hk0.1 hk0.2,r1,r2,r3];rw[Ó (by omega) (by omega)]
   try simp only[-eq_self,uR,Ĩ hu.1 hu.2,qO _ hu.1 hu.2,oC,Ĩ hi0.1 hi0.2,mS _ hi0.1 hi0.2]
   rw[Ó (by omega) (by omega),ain _ hu.1 hi0.1,step];congr 2;refine rW fun a b ha _ hb _=>?_
   by_cases h3:a=u∧b<((i+1:Nat):Int)
   ·rw[if_pos h3,if_pos h3]
    by_cases h4:b=(i:Int)
    ·rw[if_pos h4,h3.1,h4,vV];unfold upF;rw[if_neg hne,if_neg h2]
    ·rw[if_neg h4]
   ·rw[if_neg h3,if_neg h3]
 ·try dsimp only
  unfold lp;rw[List.length_replicate,Ò (decide_eq_false (by omega))];congr 1;refine rW fun a b _ _ _ hb=>?_
  by_cases h:a=u
  ·rw[if_pos ⟨h,hb⟩,if_pos h]
  ·rw[if_neg (fun q=>h q.1),if_neg h]
def afe (hS:ĺ L N) {k:Nat} (hk:k<N) {f:Int→Int→Int} (hT:Tab L N k f) (K:List (List Int)→Option ρ) :
 Ñ (fun(v60:Int×List (List Int)) kk63=>lq (k:Int) (N:Int) v60.1 v60.2 (fun u61 u62=>kk63 (u61,u62)) K) ((0:Int),AZ N f)=K (AZ N (upF f k)):=by
 have hn:=hS.n60
 have hk0:(0:Int)≤k∧(k:Int)<N:=by omega
 have hdk:=hT.diag k hk0.1 hk0.2
 have rowk:∀b:Int,upF f k k b=f k b:=fun b=>by
  unfold upF;rw[hdk];rw[if_neg (by decide)]
  split
  ·rfl
  ·omega
 refine ñ (List.replicate N ()) (fun i=>AZ N fun a b=>if a<i then upF f k a b else f a b) _ ?_ (fun i a hi ha kn=>?_) (fun kn=>?_)
 ·exact rW fun a b ha _ _ _=>if_neg (by omega)
 ·try dsimp only
  unfold lq;rw[List.length_replicate] at hi
  have hi0:(0:Int)≤i∧(i:Int)<N:=by omega
  have r1:(if (i:Int)<i then upF f k i k else f i k)=f i k:=if_neg (by omega);rw[Õ (decide_eq_true hi0.2)];simp only[uR,Ĩ hi0.1 hi0.2,qO _ hi0.1 hi0.2,oC,Ĩ hk0.1 hk0.2,mS _ hk0.1 hk0.2,r1]
  by_cases h1:f i k=ĭ
  ·rw[Õ (beq_iff_eq.2 h1),Ó (by omega) (by omega)];congr 2;refine rW fun a b ha _ hb _=>?_
   by_cases h2:a<(i:Int)
   ·rw[if_pos h2,if_pos (by push_cast; omega)]
   ·rw[if_neg h2]
    by_cases h3:a=(i:Int)
    ·rw[if_pos (by push_cast; omega),h3];unfold upF;rw[if_pos h1]
    ·rw[if_neg (by push_cast; omega)]
  ·rw[Ò (beq_eq_false_iff_ne.2 h1)];refine(alq hS hk hT hi0 h1 (fun b _ _=>?_) (fun b _ _=>if_neg (by omega)) _).trans ?_
   ·split
    ·exact rowk b
    ·rfl
   ·rw[Ó (by omega) (by omega)];congr 2;refine rW fun a b ha _ hb _=>?_
    by_cases h3:a=(i:Int)
    ·rw[if_pos h3,if_pos (by push_cast; omega)]
    ·rw[if_neg h3]
     by_cases h2:a<(i:Int)
     ·rw[if_pos h2,if_pos (by push_cast; omega)]
     ·rw[if_neg h2,if_neg (by push_cast; omega)]
 ·try dsimp only
  unfold lq;rw[List.length_replicate,Ò (decide_eq_false (by omega))];congr 1;exact rW fun a b _ ha _ _=>if_pos ha
def alp (hN:N≤60) (f:Int→Int→Int) (X Y:Option ρ) :
 Ñ (fun(v57:Int) kk59=>iE (N:Int) (AZ N f) v57 (fun u58=>kk59 u58) (fun _=>X) (fun _=>Y)) (0:Int)=if ((List.range N).any fun(a:Nat)=>decide (f a a<0)) then X else Y:=by
 refine ń (List.range N) (fun a=>decide (f a a<0)) (fun _=>X) X Y (fun _=>rfl) (fun i a hi ha kn=>?_) (fun kn=>?_)
 ·try dsimp only
  unfold iE;rw[List.length_range] at hi
  have hia:a=i:=by rw[fj hi] at ha; exact(Option.some.inj ha).symm
  subst hia
  have hi0:(0:Int)≤a∧(a:Int)<N:=by omega
  rw[Õ (decide_eq_true hi0.2)];simp only[uR,Ĩ hi0.1 hi0.2,qO _ hi0.1 hi0.2,oC,mS _ hi0.1 hi0.2];rw[Ó (by omega) (by omega),Ĕ]
 ·try dsimp only
  unfold iE;rw[List.length_range,Ò (decide_eq_false (by omega))]
def agu (hS:ĺ L N) (ht:HZ L N):pr ((N:Int),L)=some (if ě L N then(AZ N (dst L N),true) else([],false)):=by
 have hn:=hS.n60;unfold pr IW;dsimp only;refine(alt hn _).trans ?_;refine(alr hS _).trans ?_
 have anyOf:∀k:Nat,((List.range N).any fun(a:Nat)=>decide (fw L k a a<0))=true↔∃a:Int,0≤a∧a<N∧fw L k a a<0:=fun k=>by
  rw[eW];constructor
  ·rintro⟨a,h1,h2⟩;have:=gF.1 h1;exact⟨a,by omega,by omega,of_decide_eq_true h2⟩
  ·rintro⟨a,h0,h1,h2⟩;exact⟨a.toNat,gF.2 (by omega),decide_eq_true (by rw[show((a.toNat:Nat):Int)=a by omega]; exact h2)⟩
 rcases fw_all hS with⟨j,hj,hT,hb,hall⟩|hall
 ·rw[amd hS hj hT hb,if_neg (by simp)];refine ī (fun v=>∃k:Nat,k≤j∧v=((k:Int),AZ N (fw L k))∧Tab L N k (fw L k)) (fun v=>N-v.1.toNat) ?_ ⟨0,by omega,rfl,hall 0 (by omega)⟩;rintro v ⟨k,hkj,rfl,hTk⟩;dsimp only
  have hL6:∀kn:Int×List (List Int)→Option (List (List Int)×Bool),jx (N:Int) (k:Int) (AZ N (fw L k)) (fun u67 u68=>kn (u67,u68)) (fun z64=>some (([]:List (List Int)),z64.1)) (fun z65=>some (z65,true))=if ((List.range N).any fun(a:Nat)=>decide (fw L (k+1) a a<0)) then some ([],false) else kn ((k:Int)+1,AZ N (fw L (k+1))):=fun kn=>by
   unfold jx;rw[Õ (decide_eq_true (by omega))];refine(afe hS (by omega) hTk _).trans ?_;have:=alp hn (upF (fw L k) k) (some (([]:List (List Int)),false)) (ck ((k:Int)+1) fun n56=>kn (n56,AZ N (upF (fw L k) k)));rw[Ó (by omega) (by omega)] at this;refine Eq.trans ?_ this;rw[Ó (by omega) (by omega)];congr 1
  rcases Nat.lt_or_eq_of_le hkj with hlt|rfl
  ·refine .inr ⟨(((k+1:Nat):Int),AZ N (fw L (k+1))),⟨k+1,hlt,rfl,hall (k+1) hlt⟩,by dsimp only; omega,fun kn=>?_⟩;have hd:=hall (k+1) hlt;rw[hL6 kn,if_neg]
   ·push_cast; rfl
   ·intro h;obtain⟨a,h0,h1,h2⟩:=(anyOf (k+1)).1 h;rw[hd.diag a h0 h1] at h2;omega
  ·refine .inl fun kn=>?_;rw[hL6 kn,if_pos ((anyOf (k+1)).2 hb)]
 ·have hT:=hall N (Nat.le_refl _);rw[ajF hS hT,if_pos rfl];refine ī (fun v=>∃k:Nat,k≤N∧v=((k:Int),AZ N (fw L k))) (fun v=>N-v.1.toNat) ?_ ⟨0,by omega,rfl⟩;rintro v ⟨k,hkj,rfl⟩;dsimp only;rcases Nat.lt_or_eq_of_le hkj with hlt|rfl
  ·have hd:=hall (k+1) hlt;refine .inr ⟨(((k+1:Nat):Int),AZ N (fw L (k+1))),⟨k+1,hlt,rfl⟩,by dsimp only; omega,fun kn=>?_⟩;unfold jx;rw[Õ (decide_eq_true (by omega))];refine(afe hS hlt (hall k hkj) _).trans ?_;refine ī (fun v=>∃a:Nat,a≤N∧v=(a:Int)) (fun v=>N-v.toNat) ?_ ⟨0,by omega,rfl⟩;rintro v ⟨a,ha,rfl⟩;rcases Nat.lt_or_eq_of_le ha with hl|rfl
   ·have ha0:(0:Int)≤a∧(a:Int)<N:=by omega
    refine .inr ⟨((a+1:Nat):Int),⟨a+1,hl,rfl⟩,by omega,fun kn'=>?_⟩;unfold iE;have hda:upF (fw L k) k a a=0:=hd.diag a ha0.1 ha0.2;rw[Õ (decide_eq_true ha0.2)];simp only[uR,Ĩ ha0.1 ha0.2,qO _ ha0.1 ha0.2,oC,mS _ ha0.1 ha0.2,hda];rw[Ò (by rfl),Ó (by omega) (by omega)];push_cast;rfl
   ·refine .inl fun kn'=>?_;unfold iE;rw[Ò (decide_eq_false (by omega)),Ó (by omega) (by omega)];push_cast;rfl
  ·refine .inl fun kn=>?_;unfold jx;rw[Ò (decide_eq_false (by omega))];refine congrArg _ (congrArg (·,true) ?_);exact rW fun a b h0 h1 h2 h3=>fw_dst hS ht hT ⟨h0,h1⟩ ⟨h2,h3⟩
end
def zT (n lo hi:Int):lJ n lo hi=some (inP n lo hi):=by
 unfold lJ adB inP ige ile
 cases h:decide (lo≤n)<;>simp_all
def Y2 (n:Int):wd n=some (H8 n):=by
 unfold wd WZ;rw[zT]; rfl
def wy (s:Int×Int) (lo hi:Int):jm s lo hi=some (jL s lo hi):=by
 unfold jm xP jL ile
 cases decide (lo≤s.1)<;>cases decide (s.1≤s.2)<;>rfl
def aoy {l:List Int} (hn:l.length≤1000000) (x:Int):Nv l x=some (l.contains x):=by
 unfold Nv WW;refine Eq.trans (ń l (fun a=>a==x) (fun _=>some true) (some true) (some false) (fun _=>rfl) (fun i a hi ha kn=>?_) (fun kn=>?_)) ?_
 ·try dsimp only
  unfold vd;rw[Ô hi,Ë ha,Î hi (by omega),Ĕ]
 ·try dsimp only
  unfold vd;rw[à]
 ·have:l.any (fun a=>a==x)=l.contains x:=by
   rw[dN,eW,ej];constructor
   ·rintro⟨a,ha,e⟩; rw[←eq_of_beq e]; exact ha
   ·intro h; exact⟨x,h,by simp⟩
  rw[this]
  cases l.contains x<;>rfl
def ahg {a b:List Int} {i:Nat} {x:Int} (h:a[i]?=some x):å (a.take (i+1)) b=å (a.take i) b++if b.contains x then[] else[x]:=by
 rw[take_succ h,å,å,gD];congr 1
 cases hx:b.contains x<;>simp only[dS,hx,eh,Bool.not_false,dn,if_false,if_true,dY]
def Y1 {a b:List Int} (ha:a.length≤1000000) (hb:b.length≤1000000):jV a b=some (å a b):=by
 unfold jV O7;refine ñ a (fun i=>å (a.take i) b) _ rfl (fun i x hi hx kn=>?_) (fun kn=>?_)
 ·try dsimp only
  unfold qZ
  have hl:(å (a.take i) b).length≤1000000:=by
   have:=zu (a.take i) b;rw[dh] at this;omega
  rw[Ô hi,Ë hx,aoy hb,À,ahg hx]
  cases b.contains x with
  |true=>rw[Ò (by rfl),Î hi (by omega)]; simp
  |false=>rw[Õ (by rfl),Ë hx,Ö (by simp only[dz]; omega),Am.iff_true,Î hi (by omega)]; simp
 ·try dsimp only
  unfold qZ;rw[à,List.take_length]
def EG (a b:List Int):Int:=(å a b).head?.getD 0
def sP {a b:List Int} (ha:a.length≤1000000) (hb:b.length≤1000000):lI a b=some (EG a b):=by
 unfold lI Wy EG;rw[Y1 ha hb,À,é]
 cases h:å a b with
 |nil=>rfl
 |cons x t =>
  rw[Ò (by simp[ieq]; omega)];exact Ë (i:=0) rfl _
def NC {b:ß} (hn:b.2.1.length≤1000000) (id:Int):qm b id=some (match b.2.1.findIdx? (fun g=>g.1==id) with|some j=>(j:Int)|none=>-1):=by
 unfold qm Pc;refine Eq.trans (ic b.2.1 (fun g=>g.1==id) (fun z=>some z) (some (-1)) (fun i a hi ha kn=>?_) (fun kn=>?_)) ?_
 ·try dsimp only
  unfold rc;rw[Ô hi,Ë ha,Î hi (by omega),Ĕ]
 ·try dsimp only
  unfold rc;rw[à]
 ·cases List.findIdx? (fun g:î=>g.1==id) b.2.1<;>rfl
def Ax {b:ß} {id:Int}:(∃j g,b.2.1.findIdx? (fun g=>g.1==id)=some j∧b.2.1[j]?=some g∧Ů b id=some g)∨(b.2.1.findIdx? (fun g=>g.1==id)=none∧Ů b id=none):=by
 unfold Ů;rw[Yv]
 cases h:b.2.1.findIdx? (fun g=>g.1==id) with
 |none=>exact .inr ⟨rfl,rfl⟩
 |some j =>
  obtain⟨hj,_,_⟩:=dM.1 h;exact .inl ⟨j,_,rfl,cN hj,cN hj⟩
def ψ (b:ß) (id day:Int):Int:=match Ů b id with|some g=>if day<g.2.1 then 4 else 0|none=>5
def H4 {b:ß} (hn:b.2.1.length≤1000000) (id day:Int):mI b id day=some (ψ b id day):=by
 unfold mI IJ ψ;rw[NC hn,À];rcases Ax (b:=b) (id:=id) with⟨j,g,h1,h2,h3⟩|⟨h1,h2⟩
 ·rw[h1,h3]
  try dsimp only
  rw[Ò (by simp[ilt]),Ë h2,Ĕ]
  by_cases hd:day<g.2.1
  ·rw[if_pos (by simpa[ilt] using hd),if_pos hd]
  ·rw[if_neg (by simpa[ilt] using hd),if_neg hd]
 ·rw[h1,h2];rfl
def CS {b:ß} (hi:b.2.1.Pairwise fun a b=>a.1<b.1) (id day:Int):ψ b id day=ni (iA b) id day:=by
 unfold ψ ni;rw[Ae hi]
 cases Ů b id<;>rfl
def agx {b:ß} (hn:b.2.2.2.1.length≤1000000) (id day:Int):zA b id day=some (match lQ b id day with|some l=>(l,true)|none=>((0,(0,0),0),false)):=by
 unfold zA O5;refine aje b.2.2.2.1 (fun _=>((0:Int),(0:Int),(0:Int),(0:Int))) _ (fun i=>∀l∈b.2.2.2.1.take i,(l.1==id&&inP day l.2.1.1 l.2.1.2)=false) rfl (by simp) (fun i a hi ha hP kn=>?_) (fun hP kn=>?_)
 ·try dsimp only
  unfold qY;rw[Ô hi,Ë ha]
  by_cases hm:(a.1==id&&inP day a.2.1.1 a.2.1.2)=true
  ·refine .inl ?_;have hm2:=hm;simp only[inP,cQ,beq_iff_eq,decide_eq_true_eq] at hm2;rw[Õ (by simp[ieq,hm2.1]),Õ (by simp[ile,hm2.2.1]),Õ (by simp[ile,hm2.2.2])]
   have hf:lQ b id day=some a:=by
    unfold lQ;obtain⟨hi',rfl⟩:=List.getElem?_eq_some_iff.1 ha;rw[List.find?_eq_some_iff_getElem];refine⟨hm,i,hi',rfl,fun j hj=>?_⟩;have:=hP b.2.2.2.1[j] (List.mem_iff_getElem.2 ⟨j,by rw[List.length_take]; omega,by rw[List.getElem_take]⟩);simp[this]
   rw[hf]
  ·refine .inr ⟨fun l hl=>?_,?_⟩
   ·rw[take_succ ha,cW,df] at hl;rcases hl with hl|rfl
    ·exact hP l hl
    ·simpa using hm
   ·have hm2:=hm;simp only[inP,cQ,beq_iff_eq,decide_eq_true_eq] at hm2
    by_cases h1:a.1=id
    ·by_cases h2:a.2.1.1≤day
     ·rw[Õ (by simp[ieq,h1]),Õ (by simp[ile,h2]),Ò (by simp[ile]; exact Int.lt_of_not_ge fun h3=>hm2 ⟨h1,h2,h3⟩),Î hi (by omega)]
     ·rw[Õ (by simp[ieq,h1]),Ò (by simp[ile]; omega),Î hi (by omega)]
    ·rw[Ò (by simp[ieq,h1]),Î hi (by omega)]
 ·try dsimp only
  unfold qY;rw[à]
  have:lQ b id day=none:=by
   unfold lQ;rw[List.find?_eq_none];intro l hl;have:=hP l (by rw[List.take_length]; exact hl);simp[this]
  rw[this]
def am1 {b:ß} (hn:b.2.2.1.length≤1000000) (id day:Int):Hu b id day=some (LV b id day):=by
 unfold Hu OM;refine Eq.trans (ń b.2.2.1 (fun u=>u.1==id&&u.2==day) (fun _=>some true) (some true) (some false) (fun _=>rfl) (fun i a hi ha kn=>?_) (fun kn=>?_)) ?_
 ·try dsimp only
  unfold qV;rw[Ô hi,Ë ha,Ë ha,Î hi (by omega)]
  cases h1:(a.1==id) with
  |false=>have:ieq a.1 id=false:=h1; simp[this]
  |true =>
   have:ieq a.1 id=true:=h1;rw[this]
   cases h2:(a.2==day) with
   |false=>have:ieq a.2 day=false:=h2; simp[this]
   |true=>have:ieq a.2 day=true:=h2; simp[this]
 ·try dsimp only
  unfold qV;rw[à]
 ·unfold LV
  cases b.2.2.1.any _<;>rfl
def akZ (a b:Nat):AD a b=some ((Nat.gcd a b:Nat):Int):=by
 unfold AD Xd;refine ī (fun x:Int×Int=>∃c d:Nat,x=((c:Int),(d:Int))∧Nat.gcd c d=Nat.gcd a b) (fun x=>x.2.toNat) ?_ ⟨a,b,rfl,rfl⟩;rintro x ⟨c,d,rfl,hg⟩
 cases d with
 |zero =>
  refine .inl fun kn=>?_;rw[Nat.gcd_zero_right] at hg;unfold ve;simp[hg,ine]
 |succ d =>
  refine .inr ⟨(((d+1:Nat):Int),((c % (d+1):Nat):Int)),⟨d+1,c % (d+1),rfl,?_⟩,?_,fun kn=>?_⟩
  ·rw[←hg,gO c (d+1),Nat.gcd_rec (d+1) c,gO]
  ·have:=gE c (gy d);simp only[di];omega
  ·unfold ve
   have h1:ine ((d+1:Nat):Int) 0=true:=by simp[ine]; omega
   have h2:Ŋ ((d+1:Nat):Int) 0=false:=by simp[Ŋ]; omega
   simp only[h1,Õ Ò h2];congr 1
def ak0 {n:Int} (h : -9223372036854775807≤n∧n≤9223372036854775807):Hx n=some (n.natAbs:Int):=by
 unfold Hx Xh
 by_cases hn:n<0
 ·rw[Õ (by simpa[ilt] using hn),Ó (by omega) (by omega)];congr 1;omega
 ·rw[Ò (by simpa[ilt] using hn)];congr 1;omega
def akR (r:Int×Int):AB r=some (Kt r):=by
 unfold AB IX Kt
 by_cases h1:1≤r.2
 ·rw[Ò (by simp[ilt]; omega)]
  by_cases h2:r.2≤2147483647
  ·rw[Ò (by simp[igt]; omega)]
   by_cases h3:r.1 < -2147483647
   ·rw[Õ (by simp[ilt]; omega)]
    have:¬((r.1.natAbs:Int)≤2147483647):=by omega
    simp[this]
   ·rw[Ò (by simp[ilt]; omega)]
    by_cases h4:2147483647<r.1
    ·rw[Õ (by simp[igt]; omega)]
     have:¬((r.1.natAbs:Int)≤2147483647):=by omega
     simp[this]
    ·rw[Ò (by simp[igt]; omega),ak0 ⟨by omega,by omega⟩,À]
     have h5:r.2=((r.2.natAbs:Nat):Int):=by omega
     have h6:((r.1.natAbs:Int)≤2147483647):=by omega
     rw[h5,akZ,À,←h5];congr 1;rw[dN];simp only[ieq,beq_iff_eq,h1,h2,h6,decide_true,dU,decide_eq_true_eq];omega
  ·rw[Õ (by simp[igt]; omega)];simp[h2]
 ·rw[Õ (by simp[ilt]; omega)];simp[h1]
def akQ (g:î):AA g=some (qg g):=by
 unfold AA IH qg;rw[akR,zT,zT,Y2,zT,wy,zT];simp only[À]
 have e:igt g.2.2.2.2.1.2 100=!decide (g.2.2.2.2.1.2≤100):=by
  rw[dN]; simp[igt]
 rw[e]
 cases Kt g.2.2.2.2.1<;>cases inP g.2.2.2.2.1.1 (-1000) 1000<;>cases decide (g.2.2.2.2.1.2≤100)<;>cases inP g.1 1 1099511627776<;>cases H8 g.2.1<;>cases inP g.2.2.1 1 1125899906842624<;>cases jL g.2.2.2.1 (-1073741824) 1073741824<;>rfl
def adn {l:List Int}:∀(m:List Int) (j:Nat) (x:Bool),ķ (xj l) j m=some x→x=false:=by
 intro m
 induction m with
 |nil=>intro j x h; cases h
 |cons a m ih =>
  intro j x h;unfold ķ at h
  cases hp:xj l j a with
  |none=>rw[hp] at h; exact ih _ _ h
  |some y =>
   rw[hp] at h;cases h;unfold xj at hp
   split at hp
   ·cases hp; rfl
   ·split at hp
    ·cases hp; rfl
    ·cases hp
def agw {l:List Int} (hn:l.length≤1000000):zz l=some (lU l):=by
 unfold zz OT;refine Eq.trans (kF l (xj l) some (some (decide (l.length≤6))) (fun i a hi ha kn=>?_) (fun kn=>?_)) ?_
 ·try dsimp only
  unfold qW;rw[Ô hi,Ë ha,zT,À];unfold xj
  cases inP a 1 1099511627776 with
  |false=>rfl
  |true =>
   simp only[eh,ô,dn,if_false];rcases ft i with h0|h0
   ·subst h0
    have:igt ((0:Nat):Int) 0=false:=by simp[igt]
    rw[Ò this,Î hi (by omega)];simp[D6]
   ·obtain⟨q,hq⟩:=Em hi h0
    have h1:igt (i:Int) 0=true:=by simp[igt]; omega
    rw[Õ h1,Ë ha,Rl h0 (by omega),Hk h0 hq];simp only[D6,h0,decide_true,Bool.true_and,hq,Option.any_some];unfold ile
    cases h2:decide (a≤q) with
    |true=>rfl
    |false =>
     rw[ô,Î hi (by omega)];rfl
 ·try dsimp only
  unfold qW;rw[à,é];simp[ile];omega
 ·unfold lU
  cases h:ķ (xj l) 0 l with
  |none=>rfl
  |some x=>rw[adn _ _ _ h]
def akO {c:Cmp} (hA:c.2.2.1.length≤1000000) (hB:c.2.2.2.1.length≤1000000):Ay c=some (L1 c):=by
 unfold Ay IE L1;rw[agw hA,agw hB,zT,Y2,zT,zT,wy];simp only[À]
 cases lU c.2.2.1<;>cases lU c.2.2.2.1<;>cases inP c.1 1 1099511627776<;>cases H8 c.2.1<;>cases inP c.2.2.2.2.1 (-1125899906842624) 1125899906842624<;>cases inP c.2.2.2.2.2.1 0 1073741824<;>cases jL c.2.2.2.2.2.2 (-10000) 10000<;>rfl
def Za (b:ß) (u:Int×Int):Int:=if !H8 u.2 then 1 else ψ b u.1 u.2
def ae8 {b:ß} (hi:b.2.1.Pairwise fun a b=>a.1<b.1) (u:Int×Int):Za b u=agE (iA b) u.1 u.2:=by
 unfold Za agE;rw[CS hi]
def af1 (e:Int):Option Int:=if e=0 then none else some e
def JX {α:Type} (E:Nat→α→Int):∀(k:Nat) (l:List α),ķ (fun i a=>af1 (E i a)) k l=(l.mapIdx fun i a=>E (i+k) a).find? (fun e=>e != 0)
 |_,[]=>rfl
 |k,a::t=>by
  unfold ķ;rw[JX E (k+1) t,List.mapIdx_cons,List.find?_cons];unfold af1
  by_cases h:E k a=0
  ·simp only[h,if_true,dt];have:((0:Int) != 0)=false:=rfl;rw[this]
   have e:(fun(i:Nat) (a:α)=>E (i+(k+1)) a)=fun i a=>E (i+1+k) a:=by
    funext i a;congr 1;omega
   rw[e]
  ·simp only[h,if_false,dt]
   have:(E k a != 0)=true:=by simpa using h
   rw[this]
def Q1 {α:Type} (E:Nat→α→Int) (l:List α):ķ (fun i a=>af1 (E i a)) 0 l=(l.mapIdx E).find? (fun e=>e != 0):=JX E 0 l
def Q2 {α:Type} (E:α→Int) (l:List α):ķ (fun _ a=>af1 (E a)) 0 l=(l.map E).find? (fun e=>e != 0):=by
 rw[JX (fun _ a=>E a) 0 l];congr 1
 exact List.ext_getElem (by simp) fun i h1 h2=>by simp
def amX {b:ß} (hs:Ŵ b):Hs b=some (((b.2.2.1.map (Za b)).find? (fun e=>e != 0)).getD 0):=by
 have h1:=hs.gauges;have h2:=hs.uses;unfold Hs Oz;refine Eq.trans (kF b.2.2.1 (fun _ u=>af1 (Za b u)) some (some 0) (fun i a hi ha kn=>?_) (fun kn=>?_)) ?_
 ·try dsimp only
  unfold qQ;rw[Ô hi,Ë ha,Y2,À];unfold Za af1
  cases H8 a.2 with
  |false=>rfl
  |true =>
   rw[Ò (by rfl),Ë ha,Ë ha,H4 (b:=((b.1.1,b.1.2),b.2.1,b.2.2.1,b.2.2.2.1,b.2.2.2.2.1,b.2.2.2.2.2)) (by simp only; omega),À,Î hi (by omega)];have e:ψ ((b.1.1,b.1.2),b.2.1,b.2.2.1,b.2.2.2.1,b.2.2.2.2.1,b.2.2.2.2.2) a.1 a.2=ψ b a.1 a.2:=rfl;rw[e]
   by_cases hz:ψ b a.1 a.2=0
   ·rw[Ò (by simp[ine,hz])]; simp[hz]
   ·rw[Õ (by simp[ine,hz])]; simp[hz]
 ·try dsimp only
  unfold qQ;rw[à]
 ·rw[Q2]
  cases List.find? (fun e=>e != 0) (b.2.2.1.map (Za b))<;>rfl
def TX (b:ß) (i:Nat) (l:Kj):Int :=
 if !jL l.2.1 0 20000 then 1 else if !inP l.2.2 0 1048576 then 1 else if ψ b l.1 l.2.1.1 != 0 then ψ b l.1 l.2.1.1 else
 if (b.2.2.2.1.take i).any (fun x=>x.1==l.1&&(decide (x.2.1.1≤l.2.1.2)&&decide (l.2.1.1≤x.2.1.2))) then 9 else
 if b.2.2.1.any (fun u=>u.1==l.1&&inP u.2 l.2.1.1 l.2.1.2) then 9 else 0
def ajl {b:ß} (hi:b.2.1.Pairwise fun a b=>a.1<b.1) (i:Nat) (l:Kj):TX b i l=TY b (iA b) i l:=by
 unfold TX TY;rw[CS hi]
def akP {b:ß} (hs:Ŵ b):Az b=some (((b.2.2.2.1.mapIdx (TX b)).find? (fun e=>e != 0)).getD 0):=by
 have h1:=hs.gauges;have h2:=hs.uses;have h3:=hs.loans;unfold Az IF;refine Eq.trans (kF b.2.2.2.1 (fun i l=>af1 (TX b i l)) some (some 0) (fun i l hi hl kn=>?_) (fun kn=>?_)) ?_
 ·try dsimp only
  unfold oG;rw[Ô hi,Ë hl,wy,À];unfold TX af1
  cases jL l.2.1 0 20000 with
  |false=>rfl
  |true =>
  rw[Ò (by rfl),zT,À]
  cases inP l.2.2 0 1048576 with
  |false=>rfl
  |true =>
  rw[Ò (by rfl),H4 (b:=((b.1.1,b.1.2),b.2.1,b.2.2.1,b.2.2.2.1,b.2.2.2.2.1,b.2.2.2.2.2)) (by simp only; omega),À];have e:ψ ((b.1.1,b.1.2),b.2.1,b.2.2.1,b.2.2.2.1,b.2.2.2.2.1,b.2.2.2.2.2) l.1 l.2.1.1=ψ b l.1 l.2.1.1:=rfl;rw[e]
  by_cases hz:ψ b l.1 l.2.1.1=0
  ·rw[Ò (by simp[ine,hz])]
   have hl9:(b.2.2.2.1.take i).length=i:=by rw[dh]; omega
   have inner:Ñ (fun(v21:Int) kk23=>lg b.2.2.1 l.1 l.2.1.1 l.2.1.2 v21 (fun u22=>kk23 u22) (fun z18=>(some z18:Option Int)) (fun _=>ck ((i:Int)+(1:Int)) fun n20=>kn n20)) (0:Int)=if b.2.2.1.any (fun u=>u.1==l.1&&inP u.2 l.2.1.1 l.2.1.2) then some 9 else kn ((i:Int)+1):=by
    refine ń b.2.2.1 _ (fun _=>some 9) (some 9) (kn ((i:Int)+1)) (fun _=>rfl) (fun j a hj ha kn'=>?_) (fun kn'=>?_)
    ·try dsimp only
     unfold lg;rw[Ô hj,Ë ha,Ë ha,zT,À,Î hj (by omega)]
     cases hq:(a.1==l.1) with
     |false=>have:ieq a.1 l.1=false:=hq; simp[this]
     |true =>
      have:ieq a.1 l.1=true:=hq;rw[this]
      cases inP a.2 l.2.1.1 l.2.1.2<;>simp
    ·try dsimp only
     unfold lg;rw[à];dsimp only;rw[Î hi (by omega)]
   try dsimp only
   rw[inner];refine eR (ń (b.2.2.2.1.take i) (fun x=>x.1==l.1&&(decide (x.2.1.1≤l.2.1.2)&&decide (l.2.1.1≤x.2.1.2))) (fun _=>some 9) (some 9) (if b.2.2.1.any (fun u=>u.1==l.1&&inP u.2 l.2.1.1 l.2.1.2) then some 9 else kn ((i:Int)+1)) (fun _=>rfl) (fun j a hj ha kn'=>?_) (fun kn'=>?_)) ?_
   ·try dsimp only
    unfold oF;rw[hl9] at hj
    have ha':b.2.2.2.1[j]?=some a:=by rwa [List.getElem?_take_of_lt hj] at ha
    rw[Õ (show ilt (j:Int) (i:Int)=true by simp[ilt]; omega),Ë ha',Ë ha',Ë ha',Î hj (by omega)]
    cases hq:(a.1==l.1) with
    |false=>have:ieq a.1 l.1=false:=hq; simp[this]
    |true =>
     have:ieq a.1 l.1=true:=hq;rw[this]
     cases h5:decide (a.2.1.1≤l.2.1.2)<;>cases h6:decide (l.2.1.1≤a.2.1.2)<;>simp[ile,h5,h6,Ĕ]<;>simp_all
   ·try dsimp only
    unfold oF;rw[hl9,Ò (show ilt (i:Int) (i:Int)=false by simp[ilt])]
   ·simp only[hz]
    cases List.any (b.2.2.2.1.take i) _<;>cases b.2.2.1.any _<;>rfl
  ·rw[Õ (by simp[ine,hz])]; simp[hz]
 ·try dsimp only
  unfold oG;rw[à]
 ·rw[Q1 (TX b)]
  cases(b.2.2.2.1.mapIdx (TX b)).find? (fun e=>e != 0)<;>rfl
def Bk (b:ß) (c:Cmp):Int :=
 if (c.2.2.1++c.2.2.2.1).any (fun id=>ψ b id c.2.1==5) then 5 else
 if (c.2.2.1++c.2.2.2.1).any (fun id=>ψ b id c.2.1 != 0) then 4 else
 if (c.2.2.1++c.2.2.2.1).any (fun id=>(lQ b id c.2.1).isSome) then 9 else
 if 1<(å c.2.2.1 c.2.2.2.1).length then 1 else if 1<(å c.2.2.2.1 c.2.2.1).length then 1 else
 if (å c.2.2.1 c.2.2.2.1).length+(å c.2.2.2.1 c.2.2.1).length=0 then 1 else 0
def alK {b:ß} (hi:b.2.1.Pairwise fun a b=>a.1<b.1) (c:Cmp):Bk b c=Bl b (iA b) c:=by
 unfold Bk Bl;simp only[CS hi]
 by_cases h5:(c.2.2.1++c.2.2.2.1).any (fun id=>ni (iA b) id c.2.1==5)=true
 ·rw[if_pos h5,if_pos h5]
 ·rw[if_neg h5,if_neg h5]
  have e:(c.2.2.1++c.2.2.2.1).any (fun id=>ni (iA b) id c.2.1 != 0)=(c.2.2.1++c.2.2.2.1).any (fun id=>ni (iA b) id c.2.1==4):=by
   rw[dN,eW,eW];constructor
   ·rintro⟨x,hx,h⟩;refine⟨x,hx,?_⟩;rcases Oq (iA b) x c.2.1 with h1|h1|h1
    ·rw[h1] at h; cases h
    ·rw[h1]; rfl
    ·exact absurd (eW.2 ⟨x,hx,by rw[h1]; rfl⟩) h5
   ·rintro⟨x,hx,h⟩;refine⟨x,hx,?_⟩;rw[eq_of_beq h]; rfl
  rw[e]
def ac5 {b:ß} {id d:Int}:(ψ b id d==5)=(b.2.1.findIdx? (fun g=>g.1==id)).isNone:=by
 unfold ψ;rcases Ax (b:=b) (id:=id) with⟨j,g,h1,h2,h3⟩|⟨h1,h2⟩
 ·rw[h1,h3]
  try dsimp only
  split<;>rfl
 ·rw[h1,h2]; rfl
set_option maxHeartbeats 1000000 in
def acM {b:ß} (hs:Ŵ b) {c:Cmp} (hA:c.2.2.1.length≤1000) (hB:c.2.2.2.1.length≤1000):jC b c=some (Bk b c):=by
 have h1:=hs.gauges;have h3:=hs.loans;unfold jC uX Bk;rw[Ö (by omega),Am.iff_true,List.nil_append,Ö (by omega),Am.iff_true]
 have hl:(c.2.2.1++c.2.2.2.1).length≤2000:=by rw[cR]; omega
 generalize hP:c.2.2.1++c.2.2.2.1=P at hl
 have hol:∀{i:Nat},i<P.length→((ile (0:Int) (i:Int))&&(ilt (i:Int) (ą P)))=true:=fun {i} hi=>by simp[ile,ilt,ą]; omega
 have third:Ñ (fun(v19:Int) kk21=>Μ b.1.1 b.1.2 b.2.1 b.2.2.1 b.2.2.2.1 b.2.2.2.2.1 b.2.2.2.2.2 c.2.1 P v19 (fun u20=>kk21 u20) (fun z14=>some z14) (fun _=>Ä (jV c.2.2.1 c.2.2.2.1) fun r16=>Ä (jV c.2.2.2.1 c.2.2.1) fun r17=>ifb (igt (Þ r16) (1:Int)) (some (1:Int)) (ifb (igt (Þ r17) (1:Int)) (some (1:Int)) (ck ((Þ r16)+(Þ r17)) fun n18=>ifb (ieq n18 (0:Int)) (some (1:Int)) (some (0:Int)))))) (0:Int) =
  some (if P.any (fun id=>(lQ b id c.2.1).isSome) then 9 else if 1<(å c.2.2.1 c.2.2.2.1).length then 1 else if 1<(å c.2.2.2.1 c.2.2.1).length then 1 else if (å c.2.2.1 c.2.2.2.1).length+(å c.2.2.2.1 c.2.2.1).length=0 then 1 else 0):=by
  refine eR (ń P (fun id=>(lQ b id c.2.1).isSome) (fun _=>some 9) (some 9) (some (if 1<(å c.2.2.1 c.2.2.2.1).length then 1 else if 1<(å c.2.2.2.1 c.2.2.1).length then 1 else if (å c.2.2.1 c.2.2.2.1).length+(å c.2.2.2.1 c.2.2.1).length=0 then 1 else 0)) (fun _=>rfl) (fun i a hi ha kn=>?_) (fun kn=>?_)) ?_
  ·try dsimp only
   unfold Μ;rw[Ô hi,ħ (hol hi),Ĥ ha,agx (b:=((b.1.1,b.1.2),b.2.1,b.2.2.1,b.2.2.2.1,b.2.2.2.2.1,b.2.2.2.2.2)) (by simp only; omega),À,Î hi (by omega)];have e:lQ ((b.1.1,b.1.2),b.2.1,b.2.2.1,b.2.2.2.1,b.2.2.2.2.1,b.2.2.2.2.2) a c.2.1=lQ b a c.2.1:=rfl;rw[e]
   cases lQ b a c.2.1<;>rfl
  ·try dsimp only
   unfold Μ;rw[à];dsimp only;have l1:=zu c.2.2.1 c.2.2.2.1;have l2:=zu c.2.2.2.1 c.2.2.1;rw[Y1 (by omega) (by omega),À,Y1 (by omega) (by omega),À];simp only[é]
   by_cases q1:1<(å c.2.2.1 c.2.2.2.1).length
   ·rw[Õ (by simp[igt]; omega),if_pos q1]
   ·rw[Ò (by simp[igt]; omega),if_neg q1]
    by_cases q2:1<(å c.2.2.2.1 c.2.2.1).length
    ·rw[Õ (by simp[igt]; omega),if_pos q2]
    ·rw[Ò (by simp[igt]; omega),if_neg q2,Ó (by omega) (by omega)]
     by_cases q3:(å c.2.2.1 c.2.2.2.1).length+(å c.2.2.2.1 c.2.2.1).length=0
     ·rw[Õ (by simp[ieq]; omega),if_pos q3]
     ·rw[Ò (by simp[ieq]; omega),if_neg q3]
  ·cases P.any _<;>rfl
 have second:Ñ (fun(v22:Int) kk24=>iS b.1.1 b.1.2 b.2.1 b.2.2.1 b.2.2.2.1 b.2.2.2.2.1 b.2.2.2.2.2 c.2.1 P v22 (fun u23=>kk24 u23) (fun z9=>some z9) (fun _=>Ñ (fun(v19:Int) kk21=>Μ b.1.1 b.1.2 b.2.1 b.2.2.1 b.2.2.2.1 b.2.2.2.2.1 b.2.2.2.2.2 c.2.1 P v19 (fun u20=>kk21 u20) (fun z14=>some z14) (fun _=>Ä (jV c.2.2.1 c.2.2.2.1) fun r16=>Ä (jV c.2.2.2.1 c.2.2.1) fun r17=>ifb (igt (Þ r16) (1:Int)) (some (1:Int)) (ifb (igt (Þ r17) (1:Int)) (some (1:Int)) (ck ((Þ r16)+(Þ r17)) fun n18=>ifb (ieq n18 (0:Int)) (some (1:Int)) (some (0:Int)))))) (0:Int))) (0:Int) =
  some (if P.any (fun id=>ψ b id c.2.1 != 0) then 4 else if P.any (fun id=>(lQ b id c.2.1).isSome) then 9 else if 1<(å c.2.2.1 c.2.2.2.1).length then 1 else if 1<(å c.2.2.2.1 c.2.2.1).length then 1 else if (å c.2.2.1 c.2.2.2.1).length+(å c.2.2.2.1 c.2.2.1).length=0 then 1 else 0):=by
  rw[third];refine eR (ń P (fun id=>ψ b id c.2.1 != 0) (fun _=>some 4) (some 4) (some (if P.any (fun id=>(lQ b id c.2.1).isSome) then 9 else if 1<(å c.2.2.1 c.2.2.2.1).length then 1 else if 1<(å c.2.2.2.1 c.2.2.1).length then 1 else if (å c.2.2.1 c.2.2.2.1).length+(å c.2.2.2.1 c.2.2.1).length=0 then 1 else 0)) (fun _=>rfl) (fun i a hi ha kn=>?_) (fun kn=>?_)) ?_
  ·try dsimp only
   unfold iS;rw[Ô hi,ħ (hol hi),Ĥ ha,H4 (b:=((b.1.1,b.1.2),b.2.1,b.2.2.1,b.2.2.2.1,b.2.2.2.2.1,b.2.2.2.2.2)) (by simp only; omega),À,Î hi (by omega)];have e:ψ ((b.1.1,b.1.2),b.2.1,b.2.2.1,b.2.2.2.1,b.2.2.2.2.1,b.2.2.2.2.2) a c.2.1=ψ b a c.2.1:=rfl;rw[e,Ĕ]
  ·try dsimp only
   unfold iS;rw[à]
  ·cases P.any (fun id=>ψ b id c.2.1 != 0)<;>rfl
 rw[second];refine eR (ń P (fun id=>ψ b id c.2.1==5) (fun _=>some 5) (some 5) (some (if P.any (fun id=>ψ b id c.2.1 != 0) then 4 else if P.any (fun id=>(lQ b id c.2.1).isSome) then 9 else if 1<(å c.2.2.1 c.2.2.2.1).length then 1 else if 1<(å c.2.2.2.1 c.2.2.1).length then 1 else if (å c.2.2.1 c.2.2.2.1).length+(å c.2.2.2.1 c.2.2.1).length=0 then 1 else 0)) (fun _=>rfl) (fun i a hi ha kn=>?_) (fun kn=>?_)) ?_
 ·try dsimp only
  unfold j6;rw[Ô hi,ħ (hol hi),Ĥ ha,NC (b:=((b.1.1,b.1.2),b.2.1,b.2.2.1,b.2.2.2.1,b.2.2.2.2.1,b.2.2.2.2.2)) (by simp only; omega),À,Î hi (by omega),ac5]
  try dsimp only
  cases List.findIdx? (fun g:î=>g.1==a) b.2.1 with
  |none=>rfl
  |some j =>
   have:ilt (j:Int) 0=false:=by simp[ilt]
   rw[Ò this]; rfl
 ·try dsimp only
  unfold j6;rw[à]
 ·cases P.any (fun id=>ψ b id c.2.1==5)<;>rfl
structure Pre (b:ß):Prop where
 size:Ŵ b
 gauge:∀g∈b.2.1,qg g=true
 cmp:∀c∈b.2.2.2.2.1,H8 c.2.1=true∧(å c.2.2.1 c.2.2.2.1).length≤1∧(å c.2.2.2.1 c.2.2.1).length≤1
 look:∀n∈b.2.2.2.2.2,H8 n.2=true
def aad {c:Cmp} (h:L1 c=true):H8 c.2.1=true:=by
 have:=((Ũ c).1 h).2.1;simp[H8,inP,this.1,this.2]
def Ď.pre {b:ß} (h:Ď b):Pre b :=
 ⟨h.size,h.gauge,fun c hc=>⟨aad (h.nums hc),(h.lefts hc).1,(h.lefts hc).2.1⟩,fun n hn=>(by have:=(Zb h (h.looks n hn)).1; simp[H8,inP,this.1,this.2])⟩
def Wh {a b:List Int} (h:(å a b).length≤1) {id:Int} (h0:id≠0):EG a b=id↔id∈a∧id∉b:=by
 rw[←jU];unfold EG
 cases hl:å a b with
 |nil =>
  simp only[List.head?_nil,Option.getD_none,fL,iff_false];exact fun e=>h0 e.symm
 |cons x t =>
  have:t=[]:=by
   rw[hl] at h;simp only[dc] at h;exact dl.1 (by omega)
  subst this;simp only[List.head?_cons,fK,df];exact eq_comm
def M5 (b:ß) (g:î) (d:Int):Bool :=
 g.2.1==d||b.2.2.2.2.1.any (fun c=>c.2.1==d&&(EG c.2.2.1 c.2.2.2.1==g.1||EG c.2.2.2.1 c.2.2.1==g.1))||b.2.2.2.2.2.any (fun n=>n.1==g.1&&n.2==d)
def amZ {b:ß} (hs:Ŵ b) (g:î) (d:Int):Ht b g d=some (M5 b g d):=by
 have h1:=hs.compares;have h2:=hs.looks;unfold Ht OI M5
 cases hm:(g.2.1==d) with
 |true =>
  have:ieq g.2.1 d=true:=hm;rw[Õ this];simp
 |false =>
  have:ieq g.2.1 d=false:=hm;rw[Ò this]
  have inner:Ñ (fun(v14:Int) kk16=>nt d b.2.2.2.2.2 g.1 v14 (fun u15=>kk16 u15) (fun z12=>some z12) (fun _=>some false)) (0:Int)=some (b.2.2.2.2.2.any (fun n=>n.1==g.1&&n.2==d)):=by
   refine eR (ń b.2.2.2.2.2 (fun n=>n.1==g.1&&n.2==d) (fun _=>some true) (some true) (some false) (fun _=>rfl) (fun i a hi ha kn=>?_) (fun kn=>?_)) ?_
   ·try dsimp only
    unfold nt;rw[Ô hi,Ë ha,Ë ha,Î hi (by omega)]
    cases h1:(a.1==g.1) with
    |false=>have:ieq a.1 g.1=false:=h1; simp[this]
    |true =>
     have:ieq a.1 g.1=true:=h1;rw[this]
     cases h2:(a.2==d) with
     |false=>have:ieq a.2 d=false:=h2; simp[this]
     |true=>have:ieq a.2 d=true:=h2; simp[this]
   ·try dsimp only
    unfold nt;rw[à]
   ·cases b.2.2.2.2.2.any _<;>rfl
  rw[inner];refine eR (ń b.2.2.2.2.1 (fun c=>c.2.1==d&&(EG c.2.2.1 c.2.2.2.1==g.1||EG c.2.2.2.1 c.2.2.1==g.1)) (fun _=>some true) (some true) (some (b.2.2.2.2.2.any (fun n=>n.1==g.1&&n.2==d))) (fun _=>rfl) (fun i a hi ha kn=>?_) (fun kn=>?_)) ?_
  ·have hp:=hs.piles a (cY ha)
   try dsimp only
   unfold qU;rw[Ô hi,Ë ha,sP (by omega) (by omega),sP (by omega) (by omega),Î hi (by omega)];simp only[À]
   cases h1:(a.2.1==d) with
   |false=>have:ieq a.2.1 d=false:=h1; simp[this]
   |true =>
    have:ieq a.2.1 d=true:=h1;rw[this]
    cases h2:(EG a.2.2.1 a.2.2.2.1==g.1) with
    |true=>have:ieq (EG a.2.2.1 a.2.2.2.1) g.1=true:=h2; simp[this]
    |false =>
     have:ieq (EG a.2.2.1 a.2.2.2.1) g.1=false:=h2;rw[this]
     cases h3:(EG a.2.2.2.1 a.2.2.1==g.1) with
     |true=>have:ieq (EG a.2.2.2.1 a.2.2.1) g.1=true:=h3; simp[this]
     |false=>have:ieq (EG a.2.2.2.1 a.2.2.1) g.1=false:=h3; simp[this]
  ·try dsimp only
   unfold qU;rw[à]
  ·cases b.2.2.2.2.1.any _<;>rfl
def akI {b:ß} (h:Pre b) {g:î} (hg:g∈b.2.1) {d:Int}:M5 b g d=true↔d∈Û b g:=by
 have hid:g.1≠0:=by
  have:=((uf g).1 (h.gauge g hg)).2.2.2.1;omega
 rw[iV];unfold M5;simp only[Bool.or_eq_true,List.any_eq_true,Bool.and_eq_true,beq_iff_eq,or_assoc];refine or_congr eq_comm (or_congr ?_ Iff.rfl);constructor
 ·rintro⟨c,hc,e,h1⟩;obtain⟨_,l1,l2⟩:=h.cmp c hc;refine⟨c,hc,?_,e⟩;rw[Wh l1 hid,Wh l2 hid] at h1;intro he;rw[dN,ej,ej] at he;rcases h1 with⟨x,y⟩|⟨x,y⟩
  ·exact y (he.1 x)
  ·exact y (he.2 x)
 ·rintro⟨c,hc,h1,e⟩;obtain⟨_,l1,l2⟩:=h.cmp c hc;refine⟨c,hc,e,?_⟩;rw[Wh l1 hid,Wh l2 hid]
  by_cases ha:g.1∈c.2.2.1
  ·by_cases hb:g.1∈c.2.2.2.1
   ·exact absurd (by rw[dN,ej,ej]; exact⟨fun _=>hb,fun _=>ha⟩) h1
   ·exact .inl ⟨ha,hb⟩
  ·by_cases hb:g.1∈c.2.2.2.1
   ·exact .inr ⟨hb,ha⟩
   ·exact absurd (by rw[dN,ej,ej]; exact⟨fun x=>absurd x ha,fun x=>absurd x hb⟩) h1
def nx (v:Int) (D:List Int):Int:=D.foldl (fun m d=>if v<d then min m d else m) 20001
def aiR (v:Int) (D:List Int) (d:Int):nx v (D++[d])=if v<d then min (nx v D) d else nx v D:=by
 unfold nx;rw[List.foldl_append];rfl
def Wi (v:Int):∀D:List Int,nx v D≤20001∧(∀d∈D,v<d→nx v D≤d)∧(nx v D=20001∨(nx v D∈D∧v<nx v D)):=by
 suffices H:∀(n:Nat) (D:List Int),D.length=n→nx v D≤20001∧(∀d∈D,v<d→nx v D≤d)∧(nx v D=20001∨(nx v D∈D∧v<nx v D)) from fun D=>H _ D rfl
 intro n
 induction n with
 |zero =>
  intro D hD;rw[dl.1 hD];exact⟨dJ _,by simp,.inl rfl⟩
 |succ n ih =>
  intro D' hD'
  obtain⟨D,d,rfl⟩:∃D d,D'=D++[d]:=by
   rcases List.eq_nil_or_concat D' with rfl|⟨L,b,rfl⟩
   ·simp at hD'
   ·exact⟨L,b,by simp⟩
  obtain⟨h1,h2,h3⟩:=ih D (by simpa using hD');rw[aiR]
  by_cases hd:v<d
  ·rw[if_pos hd];refine⟨by omega,fun x hx hv=>?_,?_⟩
   ·rcases cW.1 hx with hx|hx
    ·have:=h2 x hx hv; omega
    ·rw[df] at hx; omega
   ·rcases Int.le_total (nx v D) d with h|h
    ·rw[Int.min_eq_left h];rcases h3 with h3|h3
     ·exact .inl h3
     ·exact .inr ⟨by simp[h3.1],h3.2⟩
    ·rw[Int.min_eq_right h];exact .inr ⟨by simp,hd⟩
  ·rw[if_neg hd];refine⟨h1,fun x hx hv=>?_,?_⟩
   ·rcases cW.1 hx with hx|hx
    ·exact h2 x hx hv
    ·rw[df] at hx; omega
   ·rcases h3 with h3|h3
    ·exact .inl h3
    ·exact .inr ⟨by simp[h3.1],h3.2⟩
def anW {D:List Int} (hD:D.length≤1000000) (v:Int) (K:Int→Option (List (Int×Int))) :
 Ñ (fun(v18:Int×Int) kk21=>lh v D v18.1 v18.2 (fun u19 u20=>kk21 (u19,u20)) K) ((20001:Int),(0:Int))=K (nx v D):=by
 refine ī (fun x:Int×Int=>∃k:Nat,k≤D.length∧x=(nx v (D.take k),(k:Int))) (fun x=>D.length-x.2.toNat) ?_ ⟨0,by omega,rfl⟩;rintro x ⟨k,hk,rfl⟩;rcases du k D.length with hlt|hge
 ·refine .inr ⟨(nx v (D.take (k+1)),((k+1:Nat):Int)),⟨k+1,hlt,rfl⟩,by simp only[Int.toNat_natCast]; omega,fun kn=>?_⟩;have ha:D[k]?=some D[k]:=List.getElem?_eq_getElem hlt;unfold lh;have ho:ą D=((D.length:Nat):Int):=rfl;rw[Ô hlt,ho,ι hlt,Ĥ ha,take_succ ha,aiR]
  by_cases h:v<D[k]
  ·rw[Õ (by simpa[igt] using h),ι hlt,Ĥ ha,Î hlt (by omega),if_pos h,vV];simp
  ·rw[Ò (by simpa[igt] using h),Î hlt (by omega),if_neg h];simp
 ·have:k=D.length:=by omega
  subst this;refine .inl fun kn=>?_;unfold lh;rw[à,List.take_length]
def ahS (b:ß) (g:î) (D:List Int) (v:Int):List Int:=(Zu D).filter fun d=>decide (v<d)&&M5 b g d
def RI {b:ß} {g:î} {D:List Int} (hD:∀d∈D,d≤20000) (v:Int):ahS b g D v=if nx v D<20001 then(if M5 b g (nx v D) then nx v D::ahS b g D (nx v D) else ahS b g D (nx v D)) else[]:=by
 obtain⟨h1,h2,h3⟩:=Wi v D;refine YS ((CT D).sublist List.filter_sublist) ?_ fun x=>?_
 ·split
  ·split
   ·rw[dH];refine⟨fun a ha=>?_,(CT D).sublist List.filter_sublist⟩;have:=(fF.1 ha).2;simp at this;omega
   ·exact(CT D).sublist List.filter_sublist
  ·exact List.Pairwise.nil
 ·have hm:∀v x,x∈ahS b g D v↔x∈D∧v<x∧M5 b g x=true:=by
   intro v x;unfold ahS;rw[List.mem_filter,qH];simp
  rw[hm]
  split
  ·rename_i hlt
   have h4:nx v D∈D∧v<nx v D:=by
    rcases h3 with h3|h3
    ·omega
    ·exact h3
   split
   ·rename_i ha;rw[cZ,hm];constructor
    ·rintro⟨a,c,e⟩;have:=h2 x a c;rcases Int.lt_or_eq_of_le this with h|h
     ·exact .inr ⟨a,h,e⟩
     ·exact .inl h.symm
    ·rintro(rfl|⟨a,c,e⟩)
     ·exact⟨h4.1,h4.2,ha⟩
     ·exact⟨a,by omega,e⟩
   ·rename_i ha;rw[hm];constructor
    ·rintro⟨a,c,e⟩;have:=h2 x a c;rcases Int.lt_or_eq_of_le this with h|h
     ·exact⟨a,h,e⟩
     ·rw[←h] at e; exact absurd e ha
    ·rintro⟨a,c,e⟩;exact⟨a,by omega,e⟩
  ·rename_i hge;constructor
   ·rintro⟨a,c,e⟩;have:=h2 x a c;have:=hD x a;omega
   ·intro h; cases h
def amT {b:ß} {g:î} {D:List Int} (v:Int):(ahS b g D v).length≤D.length :=
 dC (dG _ _) (Eg D)
set_option maxHeartbeats 1000000 in
def amq {b:ß} (hs:Ŵ b) {i:Nat} {g:î} (hg:b.2.1[i]?=some g) {D:List Int} (hl:D.length≤1000000) (hD:∀d∈D,d≤20000) {out:List (Int×Int)} (ho:out.length+D.length≤1000000000) (K:List (Int×Int)→Option (List (Int×Int))) :
 Ñ (fun(v24:Int×List (Int×Int)) kk27=>lm (i:Int) b.1.1 b.1.2 b.2.1 b.2.2.1 b.2.2.2.1 b.2.2.2.2.1 b.2.2.2.2.2 D v24.1 v24.2 (fun u25 u26=>kk27 (u25,u26)) K) ((-1:Int),out)=K (out++(ahS b g D (-1)).map fun d=>((g.1,d):Int×Int)):=by
 refine ī (fun x:Int×List (Int×Int)=>x.2++(ahS b g D x.1).map (fun d=>((g.1,d):Int×Int))=out++(ahS b g D (-1)).map fun d=>((g.1,d):Int×Int)) (fun x=>(20001-x.1).toNat) ?_ rfl;rintro⟨v,o⟩ hI;simp only at hI
 by_cases hv:v<20001
 ·obtain⟨h1,h2,h3⟩:=Wi v D
  have hlt:v<nx v D:=by
   rcases h3 with h3|h3
   ·omega
   ·exact h3.2
  refine .inr ⟨(nx v D,if nx v D<20001∧M5 b g (nx v D)=true then o++[(g.1,nx v D)] else o),?_,by simp only; omega,fun kn=>?_⟩
  ·rw[←hI];simp only;rw[RI hD v]
   by_cases ha:nx v D<20001
   ·rw[if_pos ha]
    cases hq:M5 b g (nx v D) with
    |true=>rw[if_pos ⟨ha,rfl⟩,if_pos rfl]; simp
    |false=>rw[if_neg (by simp),if_neg (by simp)]
   ·rw[if_neg (by omega),if_neg ha]
    have:ahS b g D (nx v D)=[]:=by
     have e:=RI (b:=b) (g:=g) hD (nx v D);rw[e,if_neg];obtain⟨g1,g2,g3⟩:=Wi (nx v D) D;rcases g3 with g3|g3
     ·omega
     ·have:=hD _ g3.1; omega
    rw[this]
  ·unfold lm;rw[Õ (by simpa[ilt] using hv)];refine Eq.trans (anW hl v _) ?_;dsimp only
   by_cases ha:nx v D<20001
   ·rw[Õ (by simpa[ilt] using ha),Ë hg,amZ (b:=((b.1.1,b.1.2),b.2.1,b.2.2.1,b.2.2.2.1,b.2.2.2.2.1,b.2.2.2.2.2)) ⟨hs.gauges,hs.uses,hs.loans,hs.compares,hs.looks,hs.piles⟩,À];have e:M5 ((b.1.1,b.1.2),b.2.1,b.2.2.1,b.2.2.2.1,b.2.2.2.2.1,b.2.2.2.2.2) g (nx v D)=M5 b g (nx v D):=rfl;rw[e]
    cases hq:M5 b g (nx v D) with
    |true =>
     have hol:o.length≤1000000000:=by
      have:=congrArg List.length hI;simp only[cR,dW] at this;have:=amT (b:=b) (g:=g) (D:=D) (-1);omega
     rw[Õ rfl,Ë hg,Ö (by simp only[dz]; omega),Am.iff_true,if_pos ⟨ha,rfl⟩]
    |false=>rw[Ò rfl,if_neg (by simp)]
   ·rw[Ò (by simpa[ilt] using ha),if_neg (by omega)]
 ·refine .inl fun kn=>?_;unfold lm;rw[Ò (by simpa[ilt] using hv)]
  have:ahS b g D v=[]:=by
   rw[RI hD,if_neg];obtain⟨g1,g2,g3⟩:=Wi v D;rcases g3 with g3|g3
   ·omega
   ·have:=hD _ g3.1; omega
  rw[this] at hI;simp only[fm,dI] at hI;rw[hI]
def zS (b:ß):List Int:=b.2.1.map (fun g=>g.2.1)++b.2.2.2.2.1.map (fun c=>c.2.1)++b.2.2.2.2.2.map fun n=>n.2
def aeT {b:ß} (hs:Ŵ b):(zS b).length≤3000:=by
 have h1:=hs.gauges; have h2:=hs.compares; have h3:=hs.looks;simp only[zS,cR,dW];omega
def Pre.days {b:ß} (h:Pre b):∀d∈zS b,0≤d∧d≤20000:=by
 intro d hd;simp only[zS,cW,dR] at hd;rcases hd with(⟨g,hg,rfl⟩|⟨c,hc,rfl⟩)|⟨n,hn,rfl⟩
 ·have:=((uf g).1 (h.gauge g hg)).2.2.2.2.1;omega
 ·have:=(h.cmp c hc).1;simp only[H8,inP,cQ,decide_eq_true_eq] at this;exact this
 ·have:=h.look n hn;simp only[H8,inP,cQ,decide_eq_true_eq] at this;exact this
def akJ {b:ß} (h:Pre b) {g:î} (hg:g∈b.2.1):ahS b g (zS b) (-1)=Û b g:=by
 refine YS ((CT _).sublist List.filter_sublist) (qx b g) fun x=>?_;unfold ahS;rw[List.mem_filter,qH,Bool.and_eq_true,akI h hg,decide_eq_true_eq];constructor
 ·exact fun hx=>hx.2.2
 ·intro hx
  have hm:x∈zS b:=by
   simp only[zS,cW,dR];rcases iV.1 hx with e|⟨c,hc,_,e⟩|⟨n,hn,_,e⟩
   ·exact .inl (.inl ⟨g,hg,e.symm⟩)
   ·exact .inl (.inr ⟨c,hc,e⟩)
   ·exact .inr ⟨n,hn,e⟩
  have:=h.days x hm;exact⟨hm,by omega,hx⟩
def Wq {α:Type} (f:α→Int) (l:List α) (s:List Int) (i:Nat) {a:α} (ha:l[i]?=some a):s++(l.take (i+1)).map f=(s++(l.take i).map f)++[f a]:=by
 rw[take_succ ha,gS,dk]; rfl
def uJ {b:ß} (h:Pre b):jD b=some (Ì b):=by
 have h1:=h.size.gauges; have h2:=h.size.compares; have h3:=h.size.looks;have hl:=aeT h.size;unfold jD IL;refine ñ b.2.1 (fun i=>(b.2.1.take i).map (fun g=>g.2.1)) _ rfl (fun i a hi ha kn=>?_) (fun kn=>?_)
 ·try dsimp only
  unfold oK;have:=Wq (fun g:î=>g.2.1) b.2.1 [] i ha;simp only[List.nil_append] at this;rw[Ô hi,Ë ha,Ö (by simp only[List.length_map,List.length_take,List.length_singleton]; omega),Am.iff_true,Î hi (by omega),this]
 ·try dsimp only
  unfold oK;rw[à,List.take_length];dsimp only;refine ñ b.2.2.2.2.1 (fun i=>b.2.1.map (fun g=>g.2.1)++(b.2.2.2.2.1.take i).map (fun c=>c.2.1)) _ (by simp) (fun i a hi ha kn=>?_) (fun kn=>?_)
  ·try dsimp only
   unfold oJ;rw[Ô hi,Ë ha,Ö (by simp only[List.length_append,List.length_map,List.length_take,List.length_singleton]; omega),Am.iff_true,Î hi (by omega),Wq (fun c:Cmp=>c.2.1) b.2.2.2.2.1 _ i ha]
  ·try dsimp only
   unfold oJ;rw[à,List.take_length];dsimp only;refine ñ b.2.2.2.2.2 (fun i=>b.2.1.map (fun g=>g.2.1)++b.2.2.2.2.1.map (fun c=>c.2.1)++(b.2.2.2.2.2.take i).map (fun n=>n.2)) _ (by simp) (fun i a hi ha kn=>?_) (fun kn=>?_)
   ·try dsimp only
    unfold oI;rw[Ô hi,Ë ha,Ö (by simp only[List.length_append,List.length_map,List.length_take,List.length_singleton]; omega),Am.iff_true,Î hi (by omega),Wq (fun n:Int×Int=>n.2) b.2.2.2.2.2 _ i ha]
   ·try dsimp only
    unfold oI;rw[à,List.take_length];dsimp only;rw[show b.2.1.map (fun g=>g.2.1)++b.2.2.2.2.1.map (fun c=>c.2.1)++b.2.2.2.2.2.map (fun n=>n.2)=zS b from rfl];refine ñ b.2.1 (fun i=>(b.2.1.take i).flatMap fun g=>(Û b g).map fun d=>((g.1,d):Int×Int)) _ rfl (fun i g hi hg kn=>?_) (fun kn=>?_)
    ·try dsimp only
     unfold oH;rw[Ô hi]
     have hlen:((b.2.1.take i).flatMap fun g=>(Û b g).map fun d=>((g.1,d):Int×Int)).length≤2001000:=by
      have:=wc (fun g:î=>(Û b g).map fun d=>((g.1,d):Int×Int)) 2001 (fun g=>by rw[dW]; exact HM h.size g) (b.2.1.take i);rw[dh] at this;have:min i b.2.1.length*2001≤1000*2001:=dE _ (by omega);omega
     refine eR (amq h.size hg (by omega) (fun d hd=>(h.days d hd).2) (by omega) _) ?_;rw[Î hi (by omega),akJ h (cY hg),take_succ hg,eS];simp
    ·try dsimp only
     unfold oH;rw[à,List.take_length];rfl
def VF {n d:Int} (hd:0<d) (hn:n.natAbs≤2147483647) (hd2:d≤2147483647):qo n d=some (ob n d,0):=by
 obtain⟨g,h0,hg,h1,h2⟩:=zZ (n:=n) hd;have hr:=(j4 _).1 (VW hd hn hd2)
 have z:Ŋ d 0=false:=by simp[Ŋ]; omega
 have zg:Ŋ (g:Int) 0=false:=by simp[Ŋ]; omega
 unfold qo Dq
 by_cases hn0:n=0
 ·subst hn0
  have e:ob 0 d=(0,1):=by
   unfold ob
   have:(Nat.gcd (0:Int).natAbs d.natAbs:Int)=d:=by simp; omega
   rw[this,Int.ediv_self (by omega)];simp
  rw[Ò (by rfl),Ò z,Ó (by simp) (by simp),Ò z,Int.tdiv_self (by omega),Ó (by omega) (by omega),Int.zero_tdiv,e];rfl
 ·rw[Õ (by simpa[ine] using hn0),Ò z];have a0:(Int.tmod n d).natAbs=n.natAbs % d.natAbs:=gN n d;have hlt:=gE n.natAbs (show 0<d.natAbs by omega);rw[ak0 ⟨by omega,by omega⟩,À]
  have ed:d=((d.natAbs:Nat):Int):=by omega
  have eg:AD ((Int.tmod n d).natAbs:Int) d=some (g:Int):=by
   have:=akZ (Int.tmod n d).natAbs d.natAbs;rw[←ed] at this;rw[this,a0,hg];congr 2;rw[gO n.natAbs,Nat.gcd_rec d.natAbs n.natAbs]
  rw[eg,À,Ò zg]
  have q1:Int.tdiv n (g:Int)=(ob n d).1:=by
   conv=>lhs; rw[h1]
   exact gr _ (by omega)
  have q2:Int.tdiv d (g:Int)=(ob n d).2:=by
   conv=>lhs; rw[h2]
   exact gr _ (by omega)
  rw[q1,q2,Ó (by omega) (by omega),Ò zg,Ó (by omega) (by omega),Ò (by simp[igt]; omega),Ò (by simp[ilt]; omega),Ò (by simp[igt]; omega)]
def aox {x y:Int×Int} (hx:qD x 1000 100) (hy:qD y 1000 100):Nw x y=some (subP x y,0):=by
 obtain⟨b1,b2,b3⟩:=Ic hx hy;have h1:=mT hx.num (show -100≤y.2∧y.2≤100 from⟨by have:=hy.pos; omega,hy.den⟩);have h2:=mT hy.num (show -100≤x.2∧x.2≤100 from⟨by have:=hx.pos; omega,hx.den⟩);have h3:=hy.num;unfold Nw W8 Yx Xa Yy Xg;rw[Ó (by omega) (by omega),À];dsimp only
 have e:(0-y.1)*x.2 = -(y.1*x.2):=by rw[Int.zero_sub,Int.neg_mul]
 rw[Ó (by omega) (by omega),e,Ó (by omega) (by omega),Ó (by omega) (by omega),Ó (by omega) (by omega)]
 have e2:x.1*y.2 + -(y.1*x.2)=x.1*y.2-y.1*x.2:=by omega
 rw[e2,VF b2 (by omega) (by omega),À,À];rfl
def akX {k:Int×Int} (hk:qD k 200000 10000) {n:Int} (hn : -10000≤n∧n≤10000):we (n,1) k=some (EJ k n,0):=by
 have b:=Iz hk hn;have p:=hk.pos;have q:=hk.den;unfold we Xb;have e:n*k.1=k.1*n:=Int.mul_comm _ _;dsimp only;rw[e,Int.one_mul,Ó (by omega) (by omega),Ó (by omega) (by omega),VF (by omega) (by omega) (by omega),À];rfl
def akV {k:Int×Int} (hk:qD k 200000 10000) {heat:Int×Int} (hh:jL heat (-10000) 10000=true):AC ((heat.1,1),(heat.2,1)) k=some (Wf k heat,0):=by
 simp only[jL,Bool.and_eq_true,decide_eq_true_eq] at hh;have hp:=hk.pos;rw[agT (by omega) hh.2.1];unfold AC IY Hw Pu;dsimp only;rw[akX hk ⟨by omega,by omega⟩,akX hk ⟨by omega,by omega⟩]
 by_cases hn:k.1<0
 ·rw[Õ (by simpa[ilt] using hn),if_pos hn];rfl
 ·rw[Ò (by simpa[ilt] using hn),if_neg hn];rfl
def RO {r:Int×Int} (h:Kt r=true):ur r=some (r.1 / r.2):=by
 have:=(j4 r).1 h;have e:=Yu (n:=r.1) (d:=r.2) (by omega) (by omega);unfold uz Gy at e;unfold ur I0 Q6 Pr;rw[e];rfl
def Y0 {r:Int×Int} (h:Kt r=true):zB r=some (D3 r):=by
 have hr:=(j4 r).1 h;unfold zB Pw aer adF
 have z:Ŋ r.2 0=false:=by simp[Ŋ]; omega
 have t:=Int.mul_tdiv_add_tmod r.1 r.2
 have b1 : -4000000000≤Int.tdiv r.1 r.2∧Int.tdiv r.1 r.2≤4000000000:=by
  have:=Int.natAbs_tdiv_le_natAbs r.1 r.2;omega
 have h5 : -r.2<Int.tmod r.1 r.2∧Int.tmod r.1 r.2<r.2:=by
  have h6:=gN r.1 r.2;have h7:=gE r.1.natAbs (show 0<r.2.natAbs by omega);omega
 rw[Ò z,Ó (by omega) (by omega),Ò z,Ĕ];unfold D3
 by_cases hp:0<Int.tmod r.1 r.2
 ·rw[if_pos (by simpa[igt] using hp),Ó (by omega) (by omega),À];congr 1
  have : -r.1 / r.2 = -(Int.tdiv r.1 r.2)-1:=by
   refine(gd (by omega)).2 ⟨?_,?_⟩
   ·rw[Int.sub_mul,Int.neg_mul,fQ (Int.tdiv r.1 r.2)]; omega
   ·rw[Int.sub_mul,Int.neg_mul,fQ (Int.tdiv r.1 r.2)]; omega
  omega
 ·rw[if_neg (by simpa[igt] using hp),À];congr 1
  have : -r.1 / r.2 = -(Int.tdiv r.1 r.2):=by
   refine(gd (by omega)).2 ⟨?_,?_⟩
   ·rw[Int.neg_mul,fQ (Int.tdiv r.1 r.2)]; omega
   ·rw[Int.neg_mul,fQ (Int.tdiv r.1 r.2)]; omega
  omega
structure ah0 (b:ß) (c:Cmp):Prop where
 ok:aeZ b c
 ids:b.2.1.Pairwise fun a b=>a.1<b.1
 pile:∀x∈c.2.2.1++c.2.2.2.1,∃g,Ů b x=some g
def Ď.cmpIn {b:ß} (h:Ď b) {c:Cmp} (hc:c∈b.2.2.2.2.1):ah0 b c:=⟨h.cmp hc,h.ids,fun x hx=>by obtain⟨⟨g,hg,_⟩,_⟩:=h.pile hc hx; exact⟨g,hg⟩⟩
def aeZ.ne {b:ß} {c:Cmp} (h:aeZ b c):∀x∈c.2.2.1++c.2.2.2.1,x≠0:=by
 intro x hx;have hn:=(Ũ c).1 h.nums;have h1:=((En _).1 hn.2.2.2.2.2.1).1;have h2:=((En _).1 hn.2.2.2.2.2.2).1;rcases cW.1 hx with hx|hx
 ·have:=h1 x hx; omega
 ·have:=h2 x hx; omega
def acL {b:ß} (hs:Ŵ b) (hi:b.2.1.Pairwise fun a b=>a.1<b.1) {p q:List Int} (hx:∀x∈p,x≠0∧∃g,Ů b x=some g):uj b (EG p q)=some (Ek (iA b) (å p q)):=by
 have h1:=hs.gauges;unfold uj IG
 cases hl:å p q with
 |nil =>
  have:EG p q=0:=by unfold EG; rw[hl]; rfl
  rw[this];rfl
 |cons x t =>
  have e:EG p q=x:=by unfold EG; rw[hl]; rfl
  have hm:x∈p:=(jU.1 (show x∈å p q by rw[hl]; simp)).1;obtain⟨h0,g,hg⟩:=hx x hm;rw[e,Ò (by simpa[ieq] using h0),NC (by omega),À];rcases Ax (b:=b) (id:=x) with⟨j,g',h2,h3,h4⟩|⟨h2,h3⟩
  ·rw[h2]
   try dsimp only
   rw[Ë h3];unfold Ek;dsimp only;rw[Ae hi,h4]
  ·rw[h3] at hg; cases hg
def Ki {b:ß} (hs:Ŵ b) {c:Cmp} (h:ah0 b c):mJ b c=some (Ĝ b c):=by
 have hn:=(Ũ c).1 h.ok.nums;have ha:=ė hn.2.2.2.2.2.1;have hb:=ė hn.2.2.2.2.2.2;have hA:∀x∈c.2.2.1,x≠0∧∃g,Ů b x=some g:=fun x hx=>⟨h.ok.ne x (by simp[hx]),h.pile x (by simp[hx])⟩;have hB:∀x∈c.2.2.2.1,x≠0∧∃g,Ů b x=some g:=fun x hx=>⟨h.ok.ne x (by simp[hx]),h.pile x (by simp[hx])⟩;unfold mJ Dm;rw[sP (by omega) (by omega),À,acL hs h.ids hA,À,sP (by omega) (by omega),À,acL hs h.ids hB,À,aox h.ok.r1 h.ok.r2,À]
 try dsimp only
 rw[akV (heat:=c.2.2.2.2.2.2) (NJ h.ok.r1 h.ok.r2) hn.2.2.2.2.1,À];rfl
def RP {b:ß} {c:Cmp} (hA:c.2.2.1.length≤1000) (hB:c.2.2.2.1.length≤1000) (h1:0≤b.1.1) (h2:b.1.1≤1000000) (h3:0≤b.1.2) (h4:b.1.2≤1000000):pq b c=some (ik b c):=by
 unfold pq IQ ik
 have e:∀n:Nat,lT 0 ((n:Int)-1)=((n-1:Nat):Int):=by
  intro n;unfold lT
  split<;>omega
 have bd:∀(n:Nat) (x:Int),n≤1000→0≤x→x≤1000000→0≤((n-1:Nat):Int)*x∧((n-1:Nat):Int)*x≤1000000000:=by
  intro n x hn h0 hx;refine⟨fA (by omega) h0,?_⟩;have:=eY (show((n-1:Nat):Int)≤1000 by omega) hx h0 (by omega);omega
 have b1:=bd _ _ hA h1 h2;have b2:=bd _ _ hA h3 h4;have b3:=bd _ _ hB h1 h2;have b4:=bd _ _ hB h3 h4;simp only[é];rw[Ó (by omega) (by omega),Ó (by omega) (by omega)];simp only[e];rw[Ó (by omega) (by omega),Ó (by omega) (by omega),Ó (by omega) (by omega),Ó (by omega) (by omega),Ó (by omega) (by omega),Ó (by omega) (by omega)]
def agv {b:ß} (hs:Ŵ b) (hf:0≤b.1.1∧b.1.1≤b.1.2∧b.1.2≤1000000) {c:Cmp} (h:ah0 b c):jn b c=some (Ŗ b c):=by
 have hn:=(Ũ c).1 h.ok.nums;have ha:=ė hn.2.2.2.2.2.1;have hb:=ė hn.2.2.2.2.2.2;obtain⟨q1,q2,b1,b2,b3⟩:=nc hf h.ok;have c1:=uF q1;have c2:=qj q2;have fb:=ql (b:=b) (c:=c) (by omega) (by omega) (by omega) (by omega) (by omega) (by omega);have hd:=hn.2.2.1;unfold jn Fe Ŗ;rw[Ki hs h,À,RP (by omega) (by omega) (by omega) (by omega) (by omega) (by omega),À,RO q2.rat,Y0 q1.rat];simp only[À];rw[Ó (by omega) (by omega),Ó (by omega) (by omega),Ó (by omega) (by omega),Ó (by omega) (by omega),Ó (by omega) (by omega),Ó (by omega) (by omega)]
section
variable {b:ß}
def am3 (h:Ď b) {id:Int} {g:î} (hg:Ů b id=some g) {f t:Int} (hf:0≤f∧f≤100000) (ht:t≤100000):un b id f t=some (iT b g f t):=by
 have hG:=h.nG;have hU:=h.nU;have hL:=h.nL;obtain⟨hgm,hid⟩:=nO hg;unfold un O1;rw[NC (by omega),À];rcases Ax (b:=b) (id:=id) with⟨j,g',h2,h3,h4⟩|⟨h2,h3⟩
 ·rw[h2]
  have:g'=g:=by rw[hg] at h4; exact(Option.some.inj h4).symm
  subst this
  try dsimp only
  rw[Ë h3];refine ī (fun x:Int×Int=>f≤x.2∧(x.2≤t∨x.2=f)∧x.1=iT b g' f x.2) (fun x=>(t-x.2).toNat) ?_ ⟨dJ _,.inr rfl,(zp g' (dJ _)).symm⟩;rintro⟨s,d⟩ ⟨hfd,hdt,hs⟩;simp only at hfd hdt hs;subst hs
  by_cases hd:d<t
  ·refine .inr ⟨(iT b g' f (d+1),d+1),⟨by simp only; omega,.inl (by simp only; omega),rfl⟩,by simp only; omega,fun kn=>?_⟩;have e:=QJ h g' hfd;have lb:=ji h hgm (f:=f) (t:=d) hf.1;have lb2:=ji h hgm (f:=f) (t:=d+1) hf.1;unfold qX;rw[Õ (by simpa[ilt] using hd),agx (b:=((b.1.1,b.1.2),b.2.1,b.2.2.1,b.2.2.2.1,b.2.2.2.2.1,b.2.2.2.2.2)) (by simp only; omega),À];have e1:lQ ((b.1.1,b.1.2),b.2.1,b.2.2.1,b.2.2.2.1,b.2.2.2.2.1,b.2.2.2.2.2) id d=lQ b id d:=rfl;rw[e1];unfold aey at e;rw[hid] at e
   cases ha:lQ b id d with
   |some l =>
    rw[ha] at e;simp only at e;rw[Õ rfl]
    try dsimp only
    rw[←e,Ó (by omega) (by omega),Ó (by omega) (by omega)]
   |none =>
    rw[ha] at e;simp only at e;rw[Ò rfl,am1 (b:=((b.1.1,b.1.2),b.2.1,b.2.2.1,b.2.2.2.1,b.2.2.2.2.1,b.2.2.2.2.2)) (by simp only; omega),À];have e2:LV ((b.1.1,b.1.2),b.2.1,b.2.2.1,b.2.2.2.1,b.2.2.2.2.1,b.2.2.2.2.2) id d=LV b id d:=rfl;rw[e2]
    cases hu:LV b id d with
    |true =>
     rw[hu,if_pos rfl] at e;rw[Õ rfl]
     try dsimp only
     rw[←e,Ó (by omega) (by omega),Ó (by omega) (by omega)]
    |false =>
     rw[hu,if_neg (by simp)] at e;rw[Ò rfl,Ó (by omega) (by omega),e,gh]
  ·refine .inl fun kn=>?_;unfold qX;rw[Ò (by simpa[ilt] using hd)]
   have:iT b g' f d=iT b g' f t:=by
    rcases gA t f with hlt|hge
    ·have:d=f:=by omega
     rw[this,zp g' (dJ _),zp g' (by omega)]
    ·have:d=t:=by omega
     rw[this]
   rw[this]
 ·rw[h3] at hg; cases hg
end
def nY {b:ß} (h:Pre b) (n:Int×Int):ĥ b n=some (vX b n.1 n.2):=by
 have hl:=Iy h.size;unfold ĥ IM;rw[uJ h,À];refine Eq.trans (ic (Ì b) (fun m=>decide (n.1=m.1)&&decide (n.2=m.2)) (fun z=>some (z+1)) (some 0) (fun i a hi ha kn=>?_) (fun kn=>?_)) ?_
 ·try dsimp only
  unfold oL;rw[Ô hi,Ë ha,Î hi (by omega),Î hi (by omega),Ĕ,Bool.and_true]
  have e:(Ŋ a.1 n.1&&Ŋ a.2 n.2)=(decide (n.1=a.1)&&decide (n.2=a.2)):=by
   rw[dN];simp only[Ŋ,cQ,decide_eq_true_eq];exact and_congr eq_comm eq_comm
  rw[e]
 ·try dsimp only
  unfold oL;rw[à]
 ·unfold vX iB
  cases List.findIdx? (fun m=>decide (n.1=m.1)&&decide (n.2=m.2)) (Ì b)<;>rfl
def JR {b:ß} (h:Pre b) (p q:List Int) (d:Int):vX b (EG p q) d=atP (Ì b) (å p q) d:=by
 unfold vX atP EG
 cases hl:å p q with
 |nil =>
  simp only[List.head?_nil,Option.getD_none]
  have:iB (Ì b) 0 d=none:=by
   unfold iB;rw[List.findIdx?_eq_none_iff];intro n hn;obtain⟨g,hg,hn⟩:=List.mem_flatMap.1 hn;obtain⟨e,_,rfl⟩:=List.mem_map.1 hn;have:=((uf g).1 (h.gauge g hg)).2.2.2.1
   have:¬((0:Int)=g.1):=by omega
   simp[this]
  rw[this]
 |cons x t=>rfl
section
variable {b:ß}
def alR {k:Nat} (hk:k<(Ì b).length):∃(i:Nat) (g:î) (j:Nat) (d:Int),b.2.1[i]?=some g∧(Û b g)[j]?=some d∧k=off b i+j∧(Ì b)[k]?=some (g.1,d):=by
 obtain⟨i,g,j,h1,h2,h3⟩:=afG (b:=b) b.2.1.length (cO _) k (by rw[aiP]; exact hk);have hd:(Û b g)[j]?=some (Û b g)[j]:=cN h2;exact⟨i,g,j,_,h1,hd,h3,by rw[h3]; exact Ng h1 hd⟩
def agN (h:Ď b) {i j:Nat} {g g':î} (hi:b.2.1[i]?=some g) (hj:b.2.1[j]?=some g') (he:g.1=g'.1):i=j∧g=g':=by
 obtain⟨h1,rfl⟩:=cX.1 hi;obtain⟨h2,rfl⟩:=cX.1 hj;have hp:=dK.1 h.ids;rcases Nat.lt_trichotomy i j with hlt|rfl|hlt
 ·have:=hp i j h1 h2 hlt; omega
 ·exact⟨rfl,rfl⟩
 ·have:=hp j i h2 h1 hlt; omega
def qi (b:ß) (i:Nat) (g:î) (k:Nat):List Lk :=
 if k≤off b i then[] else[(0,(off b i:Int)+1,g.2.2.1+g.2.2.2.1.2),((off b i:Int)+1,0,-(g.2.2.1+g.2.2.2.1.1))] ++
  (List.range (min (k-off b i-1) ((Û b g).length-1))).flatMap fun(k:Nat)=>[((off b i:Int)+1+k,(off b i:Int)+1+k+1,0),((off b i:Int)+1+k+1,(off b i:Int)+1+k,iT b g ((Û b g)[k]?.getD 0) ((Û b g)[k+1]?.getD 0))]
def iI (b:ß) (i:Nat) (g:î) (k:Nat):List (Int×Int) :=
 if k≤off b i then[] else[(1,(i:Int)),(1,(i:Int))]++(List.range (min (k-off b i-1) ((Û b g).length-1))).flatMap fun _=>[(2,(i:Int)),(2,(i:Int))]
def ahl (h:Ď b) {i:Nat} {g:î} (hg:b.2.1[i]?=some g):qi b i g (Ì b).length=ë b g∧iI b i g (Ì b).length=í b i g:=by
 have ho:=aiO h hg;have hp:=gc (ka (b:=b) g)
 have e:min ((Ì b).length-off b i-1) ((Û b g).length-1)=(Û b g).length-1:=by omega
 unfold qi iI ë í;rw[if_neg (by omega),if_neg (by omega),e,agm h hg];exact⟨rfl,rfl⟩
def abZ {i:Nat} {g:î} {k:Nat} (hk:k<off b i∨off b i+(Û b g).length≤k) (hp:0<(Û b g).length):qi b i g (k+1)=qi b i g k∧iI b i g (k+1)=iI b i g k:=by
 unfold qi iI;rcases hk with hk|hk
 ·rw[if_pos (by omega),if_pos (by omega),if_pos (by omega),if_pos (by omega)];exact⟨rfl,rfl⟩
 ·have e:min (k+1-off b i-1) ((Û b g).length-1)=min (k-off b i-1) ((Û b g).length-1):=by omega
  rw[if_neg (by omega),if_neg (by omega),if_neg (by omega),if_neg (by omega),e];exact⟨rfl,rfl⟩
def ab0 {i:Nat} {g:î}:qi b i g (off b i+1)=qi b i g (off b i)++[(0,(off b i:Int)+1,g.2.2.1+g.2.2.2.1.2),((off b i:Int)+1,0,-(g.2.2.1+g.2.2.2.1.1))]∧iI b i g (off b i+1)=iI b i g (off b i)++[(1,(i:Int)),(1,(i:Int))]:=by
 unfold qi iI;rw[if_neg (by omega),if_pos (Nat.le_refl _),if_neg (by omega),if_pos (Nat.le_refl _),show off b i+1-off b i-1=0 by omega,Nat.zero_min];exact⟨by simp,by simp⟩
def aeo {i:Nat} {g:î} {j:Nat} (hj:j+1<(Û b g).length):qi b i g (off b i+(j+1)+1)=qi b i g (off b i+(j+1))++[((off b i:Int)+1+j,(off b i:Int)+1+j+1,0),((off b i:Int)+1+j+1,(off b i:Int)+1+j,iT b g ((Û b g)[j]?.getD 0) ((Û b g)[j+1]?.getD 0))] ∧
 iI b i g (off b i+(j+1)+1)=iI b i g (off b i+(j+1))++[(2,(i:Int)),(2,(i:Int))]:=by
 unfold qi iI;rw[if_neg (by omega),if_neg (by omega),if_neg (by omega),if_neg (by omega),show min (off b i+(j+1)+1-off b i-1) ((Û b g).length-1)=j+1 by omega,show min (off b i+(j+1)-off b i-1) ((Û b g).length-1)=j by omega,pl,pl];exact⟨by simp,by simp⟩
def ahk (i:Nat) (g:î) (k:Nat) (hd:(Û b g).length≤59):(qi b i g k).length≤120∧(iI b i g k).length≤120:=by
 unfold qi iI;constructor
 ·split
  ·simp
  ·rw[cR,Š _ _ (fun _=>rfl)];simp only[dc,dm]; omega
 ·split
  ·simp
  ·rw[cR,Š _ _ (fun _=>rfl)];simp only[dc,dm]; omega
set_option maxHeartbeats 1000000 in
def Zj (h:Ď b) {i:Nat} {g:î} (hg:b.2.1[i]?=some g) {L:List Lk} {S:List (Int×Int)} (hL:L.length≤100000) (hS:S.length≤100000) (K:List Lk×List (Int×Int)→Option (List Lk×List (Int×Int))) :
 Ñ (fun(v21:Int×List Lk×List (Int×Int)) kk25=>kj (Ì b) (i:Int) b.1.1 b.1.2 b.2.1 b.2.2.1 b.2.2.2.1 b.2.2.2.2.1 b.2.2.2.2.2 g.1 g.2.1 g.2.2.1 g.2.2.2.1.1 g.2.2.2.1.2 v21.1 v21.2.1 v21.2.2 (fun u22 u23 u24=>kk25 (u22,u23,u24)) K) ((0:Int),L,S)=K (L++ë b g,S++í b i g):=by
 have hN:=h.nodes;have hgm:=cY hg;have hdl:=HL h hgm;have hp:=gc (ka (b:=b) g);have hr:=h.gaugeR hgm;have r1:=hr.2.2.2.2.2.1;have r2:=hr.2.2.2.2.2.2.1;obtain⟨tl,htl⟩:=Rh h hgm;refine ñ (Ì b) (fun k=>(L++qi b i g k,S++iI b i g k)) _ (by simp[qi,iI]) (fun k n hk hn kn=>?_) (fun kn=>?_)
 ·try dsimp only
  unfold kj;have gl:=ahk (b:=b) i g k hdl;rw[Ô hk,Ë hn];obtain⟨i',g',j,d,h1,h2,h3,h4⟩:=alR hk
  have hnd:n=(g'.1,d):=by rw[hn] at h4; exact Option.some.inj h4
  by_cases hsame:n.1=g.1
  ·obtain⟨hi',hgg⟩:=agN h h1 hg (by rw[hnd] at hsame; exact hsame);subst hgg;have hin:i'=i:=hi';rw[hin] at h3 h1;rw[Ò (by simp[ine,hsame]),Ë hn]
   have hdn:n.2=d:=by rw[hnd]
   rw[hdn]
   cases j with
   |zero =>
    have hdd:d=g'.2.1:=by rw[htl] at h2; simpa using h2.symm
    have hk0:k=off b i:=by omega
    rw[Õ (by simp[ieq,hdd])];obtain⟨e1,e2⟩:=ab0 (b:=b) (i:=i) (g:=g');rw[←hk0] at e1 e2;rw[Î hk (by omega),Ó (by omega) (by omega),Î hk (by omega),Ó (by omega) (by omega),Ó (by omega) (by omega),Ö (by simp only[cR,dc,dm]; omega),Am.iff_true,Ö (by simp only[cR,dc,dm]; omega),Am.iff_true,Î hk (by omega),e1,e2]
    have e3:0-g'.2.2.1-g'.2.2.2.1.1 = -(g'.2.2.1+g'.2.2.2.1.1):=by omega
    rw[e3];simp only[dk]
   |succ j =>
    have hjl:=(cX.1 h2).1
    have hdd:d≠g'.2.1:=by
     have hp1:=qx b g';rw[htl] at h2 hp1;rw[List.getElem?_cons_succ] at h2;have:=(dH.1 hp1).1 d (cY h2);omega
    rw[Ò (by simpa[ieq] using hdd)]
    have hprev:(Û b g')[j]?=some ((Û b g')[j]?.getD 0):=by rw[cN (by omega)]; rfl
    have hd':d=(Û b g')[j+1]?.getD 0:=by rw[h2]; rfl
    have hpn:=Ng h1 hprev;have d1:=h.day hgm (cY hprev);have d2:=h.day hgm (cY h2);have hk0:k=off b i+(j+1):=h3;obtain⟨e1,e2⟩:=aeo (b:=b) (i:=i) (g:=g') hjl;rw[←hk0] at e1 e2
    have hkm:((k:Int)-1)=((off b i+j:Nat):Int):=by omega
    have lb:=ji h hgm (t:=d) d1.2.1;rw[Rl (by omega) (by omega),hkm,Ë hpn,Ë hn,hdn]
    try dsimp only
    rw[show un ((b.1.1,b.1.2),b.2.1,b.2.2.1,b.2.2.2.1,b.2.2.2.2.1,b.2.2.2.2.2) g'.1 ((Û b g')[j]?.getD 0) d=un b g'.1 ((Û b g')[j]?.getD 0) d from rfl,am3 h (vZ h.ids hgm) ⟨by omega,by omega⟩ (by omega),À,Î hk (by omega),Î hk (by omega),Ö (by simp only[cR,dc,dm]; omega),Am.iff_true,Ö (by simp only[cR,dc,dm]; omega),Am.iff_true,Î hk (by omega),e1,e2,←hd']
    have e3:(off b i:Int)+1+(j:Int)=(k:Int):=by omega
    rw[e3];simp only[dk]
  ·rw[Õ (by simp[ine,hsame]),Î hk (by omega)]
   have hout:k<off b i∨off b i+(Û b g).length≤k:=by
    rcases du k (off b i) with hlt|hge
    ·exact .inl hlt
    ·rcases du k (off b i+(Û b g).length) with hlt2|hge2
     ·have:=Ng hg (k:=k-off b i) (cN (by omega));rw[show off b i+(k-off b i)=k by omega,hn] at this;exact absurd (by rw[Option.some.inj this]) hsame
     ·exact .inr hge2
   obtain⟨e1,e2⟩:=abZ hout hp;rw[e1,e2]
 ·try dsimp only
  unfold kj;rw[à];obtain⟨e1,e2⟩:=ahl h hg;rw[e1,e2]
end
end Go.Proofs.ZzM
end
