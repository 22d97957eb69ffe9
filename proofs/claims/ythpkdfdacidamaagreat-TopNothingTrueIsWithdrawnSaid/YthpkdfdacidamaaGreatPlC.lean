/- lemmas -/
import Derived.Test.YthpkdfdacidamaaGreatPlB
import Derived.Test.YthpkdfdacidamaaGreatPlA
set_option linter.all false
set_option linter.unusedSectionVars false
set_option linter.unusedVariables false
set_option linter.unusedSimpArgs false
noncomputable section
namespace Go.Proofs.ZzM
open Go Go.Am
def af4 {l:List Int} {i:Nat} (hi:i≤l.length) (h:∀j a,j<i→l[j]?=some a→rt l j a=none):∀j a,j<i→l[j]?=some a→(j:Int)+1≤a∧a≤1099511627776:=by
 intro j
 induction j with
 |zero =>
  intro a hj ha;have:=h 0 a hj ha;unfold rt at this
  split at this
  ·cases this
  ·rename_i h1;simp[inP] at h1;omega
 |succ j ih =>
  intro a hj ha;have h0:=h (j+1) a hj ha;obtain⟨b,hb⟩:∃b,l[j]?=some b:=⟨_,List.getElem?_eq_getElem (by omega)⟩;have h1:=ih b (by omega) hb;unfold rt at h0
  split at h0
  ·cases h0
  rename_i h2
  split at h0
  ·cases h0
  rename_i h3;simp[inP] at h2;simp only[qN,gJ,Nat.add_sub_cancel,hb,decide_true,dJ,gG,decide_eq_true_eq] at h3;omega
def Ip (l:List Int):kE l=some (qr l):=by
 by_cases hn:l.length≤1000000
 ·exact AM hn
 unfold kE Bx
 have hf:∀(m:List Int) (j:Nat) (x:Bool),Ŭ (rt l) j m=some x→x=false:=by
  intro m
  induction m with
  |nil=>intro j x h; cases h
  |cons a m ih =>
   intro j x h;unfold Ŭ at h
   cases hp:rt l j a with
   |none=>rw[hp] at h; exact ih _ _ h
   |some y =>
    rw[hp] at h;cases h;unfold rt at hp
    split at hp
    ·cases hp; rfl
    ·split at hp
     ·cases hp; rfl
     ·cases hp
 have hP:qr l=false:=by
  unfold qr
  cases Ŭ (rt l) 0 l with
  |some _=>rfl
  |none=>exact decide_eq_false (by omega)
 rw[hP];refine đ (fun x:Int=>∃i:Nat,i≤l.length∧x=i∧∀j a,j<i→l[j]?=some a→rt l j a=none) (fun x=>l.length-x.toNat) ?_ ⟨0,by omega,rfl,fun j a hj=>by omega⟩;rintro x ⟨i,hi,rfl,hp⟩;have hlow:=af4 hi hp
 have hib:i≤1099511627776:=by
  cases i with
  |zero=>omega
  |succ k =>
   obtain⟨b,hb⟩:∃b,l[k]?=some b:=⟨_,cF (by omega)⟩;have:=hlow k b (by omega) hb;omega
 rcases df i l.length with hlt|hge
 ·have ha:l[i]?=some l[i]:=cF hlt;generalize l[i]=a at ha
  cases hc:rt l i a with
  |some b =>
   refine .inl fun kn=>?_
   try dsimp only
   unfold jg;rw[Õ hlt,È ha,ĺ,À];unfold rt at hc
   cases h1:inP a 1 1099511627776 with
   |false=>rfl
   |true =>
    rw[h1,if_neg (by simp)] at hc;rw[Ò (by rfl)];rcases fo i with h0|h0
    ·subst h0;simp[qN] at hc
    ·obtain⟨q,hq⟩:=EH hlt h0;rw[Ü (show igt (i:Int) 0=true by simp[igt]; omega),Ð (by omega) (by omega),Gx h0 hq];simp only[qN,h0,decide_true,dJ,hq,gG] at hc
     split at hc
     ·rename_i h2;rw[Ü h2]
     ·cases hc
  |none =>
   refine .inr ⟨((i+1:Nat):Int),⟨i+1,hlt,rfl,fun j a' hj hja=>?_⟩,by simp only[cT]; omega,fun kn=>?_⟩
   ·rcases df j i with h1|h1
    ·exact hp j a' h1 hja
    ·have:j=i:=by omega
     subst this;rw[ha] at hja;rw[←Option.some.inj hja]; exact hc
   ·try dsimp only
    unfold jg;unfold rt at hc;rw[Õ hlt,È ha,ĺ,À]
    cases h1:inP a 1 1099511627776 with
    |false=>rw[h1] at hc; cases hc
    |true =>
     rw[h1,if_neg (by simp)] at hc;rw[Ò (by rfl)];rcases fo i with h0|h0
     ·subst h0;rw[Ò (by simp[igt]),Ð (by omega) (by omega)]; simp
     ·obtain⟨q,hq⟩:=EH hlt h0;rw[Ü (show igt (i:Int) 0=true by simp[igt]; omega),Ð (by omega) (by omega),Gx h0 hq];simp only[qN,h0,decide_true,dJ,hq,gG] at hc
      split at hc
      ·cases hc
      ·rename_i h2;rw[Ò (by simpa using h2),Ð (by omega) (by omega)]; simp
 ·refine .inl fun kn=>?_
  have:i=l.length:=by omega
  subst this
  try dsimp only
  unfold jg;rw[â,Ý];simp[ile];omega
def Kj {b:ò} (hn:b.2.2.2.2.1.length≤1000) (hl:b.2.2.2.1.length≤1000) (s:List (Int×ï)) {i:Nat} {c:Cmp} (hc:b.2.2.2.2.1[i]?=some c):Ĝ b s i=some (jk b s i c):=by
 by_cases hA:qr c.2.2.1=true
 ·by_cases hB:qr c.2.2.2.1=true
  ·have a:=hZ hA;have b':=hZ hB;exact A8 hn hl s (by omega) (by omega) hc
  ·have hB':qr c.2.2.2.1=false:=Bool.eq_false_iff.2 hB;unfold Ĝ jr jk UU;rw[È hc,ĺ,À,hA,hB']
   cases inP c.1 1 1099511627776 with
   |false=>rfl
   |true =>
   rw[BG,À]
   cases GW c.2.1 with
   |false=>rfl
   |true =>
   rw[ĺ,À]
   cases inP c.2.2.2.2.1 (-1125899906842624) 1125899906842624 with
   |false=>rfl
   |true =>
   rw[ĺ,À]
   cases inP c.2.2.2.2.2.1 0 1073741824 with
   |false=>rfl
   |true =>
   rw[sj,À]
   cases km c.2.2.2.2.2.2 (-10000) 10000 with
   |false=>rfl
   |true =>
   rw[Ip,À,hA,Ip,À,hB'];rfl
 ·have hA':qr c.2.2.1=false:=Bool.eq_false_iff.2 hA;unfold Ĝ jr jk UU;rw[È hc,ĺ,À,hA']
  cases inP c.1 1 1099511627776 with
  |false=>rfl
  |true =>
  rw[BG,À]
  cases GW c.2.1 with
  |false=>rfl
  |true =>
  rw[ĺ,À]
  cases inP c.2.2.2.2.1 (-1125899906842624) 1125899906842624 with
  |false=>rfl
  |true =>
  rw[ĺ,À]
  cases inP c.2.2.2.2.2.1 0 1073741824 with
  |false=>rfl
  |true =>
  rw[sj,À]
  cases km c.2.2.2.2.2.2 (-10000) 10000 with
  |false=>rfl
  |true =>
  rw[Ip,À,hA'];rfl
structure ahd (b:ò):Prop where
 gauges:b.2.1.length≤12
 uses:b.2.2.1.length≤40
 loans:b.2.2.2.1.length≤12
 compares:b.2.2.2.2.1.length≤12
 looks:b.2.2.2.2.2.length≤10
def ade {b:ò} (hs:ahd b) (s:List (Int×ï)):lP b s=some (mX b s):=by
 unfold lP mX
 rw[vH (fun u _=>EL s u.1 u.2),À,E4 b.2.2.2.1 (fun i l hl=>JC (by have:=hs.loans; omega) (by have:=hs.uses; omega) s hl),À,
  E4 b.2.2.2.2.1 (fun i c hc=>Kj (by have:=hs.compares; omega) (by have:=hs.loans; omega) s hc),À,vH (fun u _=>EL s u.1 u.2),À]
def afB {b:ò} (hs:ahd b) (hr:∀g∈b.2.1,I64 g.2.2.2.2.1.1):∃e,Ř b=some e∧(e=0→In b):=by
 by_cases hp:∀c∈b.2.2.2.2.1,c.2.2.1.length≤1000∧c.2.2.2.1.length≤1000
 ·have hI:In b:=⟨⟨by have:=hs.gauges; omega,by have:=hs.uses; omega,by have:=hs.loans; omega,by have:=hs.compares; omega,by have:=hs.looks; omega,hp⟩,hr⟩;exact⟨_,qO hI.size hI.num,fun _=>hI⟩
 have h0:=hs.gauges; have h1:=hs.uses; have h2:=hs.loans; have h3:=hs.compares; have h4:=hs.looks;unfold Ř Gp;rw[sj,À]
 cases km b.1 0 1000000 with
 |false=>exact⟨1,rfl,fun e=>by cases e⟩
 |true =>
 rw[Ò (show(!true)=false from rfl)];simp only[Ý];rw[Ò (by simp[igt]; omega),Ò (by simp[igt]; omega),Ò (by simp[igt]; omega),Ò (by simp[igt]; omega),Ò (by simp[igt]; omega),Dg hr (by omega),À]
 by_cases hm:nE b=0
 case neg=>rw[Ü (by simp[ine,hm])]; exact⟨_,rfl,fun e=>absurd e hm⟩
 rw[Ò (by simp[ine,hm]),vx (by omega),À];unfold PW;rw[ade hs,À]
 cases hf:(mX b (ĕ b)).find? (fun e=>e != 0) with
 |some e =>
  have:=fP hf;exact⟨e,rfl,fun h=>by simp[h] at this⟩
 |none =>
  exfalso;refine hp fun c hc=>?_;obtain⟨i,hi,rfl⟩:=cS.1 hc
  have h5:jk b (ĕ b) i b.2.2.2.2.1[i]=0:=by
   have hmem:jk b (ĕ b) i b.2.2.2.2.1[i]∈mX b (ĕ b):=by
    unfold mX;refine List.mem_append_right _ (List.mem_append_right _ (List.mem_append_left _ ?_));exact List.mem_mapIdx.2 ⟨i,hi,rfl⟩
   have:=(dU.1 hf) _ hmem;simpa using this
  unfold jk at h5
  split at h5
  ·cases h5
  rename_i h6;have:=(jp b.2.2.2.2.1[i]).1 (by simpa using h6);have q1:=hZ this.2.2.2.2.2.1;have q2:=hZ this.2.2.2.2.2.2;omega
def ae0 {m:Ū} (hs:ahd m.1) (hr:∀g∈m.1.2.1,I64 g.2.2.2.2.1.1) (hn:m.2.length≤1000):∃e,Ω m=some e∧(e=0→In m.1):=by
 obtain⟨e,h1,h2⟩:=afB hs hr
 by_cases he:e=0
 ·have hI:=h2 he;exact⟨_,oZ hI hn,fun _=>hI⟩
 ·refine⟨e,?_,fun h=>absurd h he⟩;unfold Ω FA;rw[h1,À,Ü (by simp[ine,he])]
def exT:Ū:=(((0,0),[(3,0,1000,(-9,9),(1,2),2),(5,0,2000,(0,0),(0,1),0)],[(3,2)],[],[(1,4,[3],[],1002,1,0,0),(2,7,[3],[],2000,0,0,0)],[]),[(5,[3,5])])
def aew:In exT.1:=by
 refine⟨⟨by decide,by decide,by decide,by decide,by decide,by decide⟩,fun g hg=>?_⟩;simp only[exT,cN,gB,or_false] at hg
 rcases hg with rfl|rfl<;>exact⟨by decide,by decide⟩
def exT1:YG exT=([[5,3]],0):=by decide +kernel
def exT2:kj exT 3 7=([(5,2000,2000)],0):=by decide +kernel
def exT3:afu exT=([],0):=by decide +kernel
def age:É=some true:=by
 unfold É mi;have e:((((0:Int),(0:Int)),(([((3:Int),(0:Int),(1000:Int),((-9:Int),(9:Int)),((1:Int),(2:Int)),(2:Int))])++([((5:Int),(0:Int),(2000:Int),((0:Int),(0:Int)),((0:Int),(1:Int)),(0:Int))])),[((3:Int),(2:Int))],[],(([((1:Int),(4:Int),[(3:Int)],[],(1002:Int),(1:Int),(0:Int),(0:Int))])++([((2:Int),(7:Int),[(3:Int)],[],(2000:Int),(0:Int),(0:Int),(0:Int))])),[]),[((5:Int),[(3:Int),(5:Int)])])=exT:=rfl;rw[e,afz aew (by decide),À,Xf aew (by decide),À,aft aew (by decide),À,exT1,exT2,exT3];simp only[Ý];rfl
theorem acX {m:Ū} (h:MOk m) {label d:Int} (hk:mQ m.1 label d=0):K6 m (label,d)≠5:=by
 obtain⟨hd,g,hg⟩:=yj.1 hk;unfold K6
 split
 ·decide
 ·rw[Il h.good];unfold adO
  split
  ·decide
  split
  ·unfold Hg ow;rw[ov h.good.ids,hg];dsimp only
   split
   ·decide
   ·split<;>decide
  split
  ·decide
  split<;>decide
theorem Zu {m:Ū} {w:Way} {f:Int→Int→Int} {z:Int} (hh:Xp (JF m w) f z):Xp (trP m w) f z:=aak (b:=JF m w) (b':=trP m w) rfl rfl rfl rfl (fun c hc=>hc) hh
section
variable {m:Ū} {w:Way} {lives:List Lif} {label d:Int}
structure W5 (m:Ū) (w:Way) (lives:List Lif):Prop where
 num:∀g∈m.1.2.1,I64 g.2.2.2.2.1.1
 inn:In m.1
 ok:MOk m
 way:Į m.2 w
 good:Ő (JF m w)
 mod:∀g∈m.1.2.1,Xa g
 lived:yK (JF m w) lives=true
 hist:Xp (JF m w) (zd (JF m w) lives) 0
variable (T:W5 m w lives)
include T
theorem W5.expl:sZ m w=true:=(zF (rh T.ok T.way)).2 ⟨_,_,Zu T.hist⟩
theorem W5.mem:w∈jM m:=dH.2 ⟨vv.2 T.way,T.expl⟩
theorem W5.some:vw m=true:=du.2 ⟨w,vv.2 T.way,T.expl⟩
theorem W5.ne:jM m≠[]:=fun e=>by have:=T.mem; rw[e] at this; cases this
theorem W5.at_ (k:Nat) (g:ï) (hg:m.1.2.1[k]?=Option.some g):∃x:Lif,lives[k]?=Option.some x∧∀d,Ì g x d=Option.some (zd (JF m w) lives g.1 d):=by
 obtain⟨e,hlf⟩:=BA T.good T.lived;have hg':(JF m w).2.1[k]?=Option.some g:=hg;obtain⟨hk,_⟩:=cI.1 hg;have e':lives.length=m.1.2.1.length:=e;have hx:lives[k]?=Option.some lives[k]:=cF (by omega);have ho:=hlf k g _ hg' hx;refine⟨lives[k],hx,fun d=>?_⟩;rw[Z9 T.good (cO hg') ho,ad3 T.good hg' hx]
theorem W5.bear (x d:Int):õ m.2 w x d=Option.some (Ň m.2 w x d) :=
 G7 T.way (by have:=T.ok.n4; omega) (fun y hy=>by have:=T.ok.len5 y hy; omega) x d
theorem afM (K:Int) (hK:K=match m.1.2.1.findIdx? (fun g=>g.1==Ň m.2 w label d) with|Option.some j=>(j:Int)|none=>-1) :
 (Ä (jL m) fun r61=>Í (fun(v72:Int) kk74=>Ë w r61.1 m.2 v72 (fun u73=>kk74 u73) (fun z62=>Option.some z62) (fun _=>Ä (ņ (JF m w) (Ň m.2 w label d,d)) fun r64=>Ä (Option.some true) fun r65=>ifb r65 (ifb (ieq r61.2 (0:Int)) (ifb (ine r64.2 (0:Int)) (Option.some true) (ifb (ilt K (0:Int)) (Option.some true) (ą m.1.2.1 K fun e66=>ą lives K fun e67=>Ä (Ì e66 e67 d) fun r68=>ifb (ige r68 r64.1.1) (ą m.1.2.1 K fun e69=>ą lives K fun e70=>Ä (Ì e69 e70 d) fun r71=>Option.some (ile r71 r64.1.2)) (Option.some false)))) (Option.some false)) (Option.some false))) (0:Int))=Option.some true:=by
 have hG:=T.inn.size.gauges;have hIU:In (JF m w):=⟨T.good.size,T.num⟩;rw[aft T.inn (by have:=T.ok.n4; omega),À]
 have hS:afu m=(Xz m,0):=by unfold afu; rw[if_neg (by simp[(Ι m).2 T.ok]),if_neg T.ne]
 rw[hS]
 have hSl:(Xz m).length≤1000:=by
  unfold Xz;rw[List.length_map];exact Nat.le_trans (List.length_filter_le _ _) hG
 refine adJ (Xz m) _ (fun i x hi hx kn=>?_) (fun kn=>?_)
 ·try dsimp only
  unfold Ë;have hm:x∈Xz m:=List.mem_of_getElem? hx;unfold Xz at hm;obtain⟨g,hg,rfl⟩:=List.mem_map.1 hm;have hw:=of_decide_eq_true (List.all_eq_true.1 (List.mem_filter.1 hg).2 w T.mem);rw[Õ hi,È hx,T.bear,À,È hx,hw,Ò (by simp[ine]),Î hi (by omega)]
 ·try dsimp only
  unfold Ë;rw[â,Zj hIU,À,À,md,Ü (by rfl)];unfold Od
  by_cases ho:(wS (JF m w) [(Ň m.2 w label d,d)]).2=0
  case neg=>rw[if_pos ho,Ü (by simp[ine,ho])]
  rw[if_neg (by simp[ho]),Ò (by rfl)];obtain⟨hR,e1,e2,_⟩:=UT hIU ho
  have hh:Xp (wS (JF m w) [(Ň m.2 w label d,d)]).1 (zd (JF m w) lives) 0:=by rw[e1]; exact(Uy e2).2 T.hist
  have hnode:Bj (wS (JF m w) [(Ň m.2 w label d,d)]).1 (Ň m.2 w label d,d):=by rw[e1]; exact Uw T.good e2 _ (by simp)
  have hiv:=iv_in hR hnode hh
  cases hf:m.1.2.1.findIdx? (fun g=>g.1==Ň m.2 w label d) with
  |none=>rw[hf] at hK; rw[hK]; rfl
  |some k =>
   rw[hf] at hK;obtain⟨hkl,heq,_⟩:=dg.1 hf;have hg:m.1.2.1[k]?=Option.some m.1.2.1[k]:=cF hkl;obtain⟨x,hx,hlen⟩:=T.at_ k _ hg
   have hid:m.1.2.1[k].1=Ň m.2 w label d:=by simpa using heq
   dsimp only at hK hiv;rw[hK,Ò (by simp[ilt]),È hg,È hx,hlen,À,hid,Ü (decide_eq_true (by dsimp only; omega)),È hg,È hx,hlen,À,hid];exact congrArg Option.some (decide_eq_true (by dsimp only; omega))
theorem EC (hj:(kj m label d).2=0) (K:Int) (hK:K=match m.1.2.1.findIdx? (fun g=>g.1==Ň m.2 w label d) with|Option.some j=>(j:Int)|none=>-1) (Z:Option Bool) :
 Í (fun(v57:Bool×Int) kk60=>Ï lives d (Ň m.2 w label d) K (kj m label d).1 m.1.2.1 v57.1 v57.2 (fun u58 u59=>kk60 (u58,u59)) (fun z38=>ifb (!z38) (Option.some false) Z)) (false,(0:Int))=Z:=by
 have hc:=WF T.ok label d
 by_cases hk:mQ m.1 label d=0
 case neg=>rw[if_pos hk] at hc; rw[hc] at hj; exact absurd hj hk
 rw[if_neg (by simp[hk]),if_neg T.ne] at hc
 by_cases hs:K6 m (label,d)=0
 case neg=>rw[if_pos hs] at hc; rw[hc] at hj; exact absurd hj hs
 rw[if_neg (by simp[hs])] at hc;have hkG:=(yj.1 hk).2;have hG:=T.inn.size.gauges;obtain⟨g,hg⟩:=T.ok.whoK (d:=d) T.way hkG;obtain⟨h1,h2⟩:=Š hg;obtain⟨k,hkl,rfl⟩:=List.mem_iff_getElem.1 h1;have hgk:m.1.2.1[k]?=Option.some m.1.2.1[k]:=List.getElem?_eq_getElem hkl;have hidx:=ahD T.ok.good hgk;rw[h2] at hidx;rw[hidx] at hK;dsimp only at hK;obtain⟨x,hx,hlen⟩:=T.at_ k _ hgk
 -- the hull
 have hall:ahZ m label d (jM m) (Ň m.2 w label d) (nS (k:=tI) (v:=Ã) (Ň m.2 w label d) (oh m label d (jM m))):=QE _ _ _ rfl
 cases hmg:nS (k:=tI) (v:=Ã) (Ň m.2 w label d) (oh m label d (jM m)) with
 |none=>rw[hmg] at hall; exact absurd rfl (hall w T.mem)
 |some s =>
 rw[hmg] at hall;obtain⟨_,_,h3⟩:=hall;obtain⟨h4,h5⟩:=h3 w T.mem rfl;have hR:=ac2 T.ok T.way T.expl
 have hE:(g8 (trP m w) (Ň m.2 w label d,d)).2=0:=by
  have e:=acy (n:=(label,d)) T.ok T.way hkG;rw[hs] at e;unfold Xu vm at e
  by_cases q:(g8 (trP m w) (Ň m.2 w label d,d)).2=0
  ·exact q
  ·rw[if_pos q] at e; exact e
 obtain⟨r1,r2⟩:=Uk hR hE
 have hwl:aa6 m label d w=ivR (g8 (trP m w) (Ň m.2 w label d,d)).1 (Ň m.2 w label d,d):=by
  unfold aa6 vm;rw[if_neg (by simp[hE])]
 have hh:Xp (g8 (trP m w) (Ň m.2 w label d,d)).1 (zd (JF m w) lives) 0:=by
  have h0:=Zu T.hist;rcases zo hE with⟨q,_⟩|⟨q,_⟩
  ·rw[q]; exact h0
  ·rw[q]; exact Nf.2 h0
 have hiv:=iv_in r1 r2 hh;rw[←hwl] at hiv
 have hin:s.1≤zd (JF m w) lives (Ň m.2 w label d) d∧zd (JF m w) lives (Ň m.2 w label d) d≤s.2:=by
  simp only[Int.sub_zero] at hiv;exact⟨Int.le_trans h4 hiv.1,Int.le_trans hiv.2 h5⟩
 have hmem:(Ň m.2 w label d,s)∈(kj m label d).1:=by
  rw[hc];exact List.mem_filterMap.2 ⟨_,h1,by rw[h2,hmg]; rfl⟩
 have hcl:(kj m label d).1.length≤1000:=by
  rw[hc];exact cY (List.length_filterMap_le _ _) hG
 generalize (kj m label d).1=L at hmem hcl
 -- the loop
 have key:=Ik (ρ:=Bool) L (fun i=>(L.take i).any fun c=>decide (c.1=Ň m.2 w label d)&&(decide (c.2.1≤zd (JF m w) lives (Ň m.2 w label d) d)&&decide (zd (JF m w) lives (Ň m.2 w label d) d≤c.2.2))) Z (fun _=>True) (s0:=false) (f:=fun(v57:Bool×Int) kk60=>Ï lives d (Ň m.2 w label d) K L m.1.2.1 v57.1 v57.2 (fun u58 u59=>kk60 (u58,u59)) (fun z38=>ifb (!z38) (Option.some false) Z)) (by simp) trivial (fun i c hi hci _ kn=>.inr ⟨trivial,?_⟩) (fun _ kn=>?_)
 ·exact key
 ·try dsimp only
  unfold Ï;rw[Õ hi,hK,Ü (by simp[ige]),È hgk,È hx,hlen,À,h2,take_succ hci,List.any_append];generalize (List.take i L).any _=B
  cases B with
  |true=>rw[md,Î hi (by omega)]; rfl
  |false =>
   rw[ë,È hci,Î hi (by omega)];simp only[List.any_cons,List.any_nil,Bool.or_false,Bool.false_or]
   by_cases e1:c.1=Ň m.2 w label d
   ·rw[Ü (by simp[ieq,e1]),È hci,decide_eq_true e1,dJ]
    by_cases e2:c.2.1≤zd (JF m w) lives (Ň m.2 w label d) d
    ·rw[Ü (decide_eq_true e2),È hci,decide_eq_true e2,dJ,Î hi (by omega)]
    ·rw[Ò (decide_eq_false e2),decide_eq_false e2,gk]
   ·rw[Ò (by simp[ieq,e1]),decide_eq_false e1,gk]
 ·try dsimp only
  unfold Ï;rw[â,List.take_length,List.any_eq_true.2 ⟨_,hmem,by simp[hin.1,hin.2]⟩];rfl
end
def ahq {ρ:Type} (a0:Val Â) (a1:(Val (.slice (.slice tI)))) (a2:(Val (.slice Ŋ))) (a3:(Val (.slice Ĥ))) (a4:Int) (a5:Int) (a6:(Val (.slice tI))) (k:Bool→Option ρ):Option ρ :=
 ifb (igt (à a0.1.2.1) (12:Int)) (Ä É fun r1=>k r1) (ifb (igt (à a0.1.2.2.2.2.1) (12:Int)) (Ä É fun r2=>k r2) (ifb (igt (à a0.1.2.2.1) (40:Int)) (Ä É fun r3=>k r3) (ifb (igt (à a0.1.2.2.2.1) (12:Int)) (Ä É fun r4=>k r4) (ifb (igt (à a0.1.2.2.2.2.2) (10:Int)) (Ä É fun r5=>k r5) (ifb (igt (à a0.2) (3:Int)) (Ä É fun r6=>k r6) (ifb (igt (à a1) (3:Int)) (Ä É fun r7=>k r7) (ifb (igt (à a6) (8:Int)) (Ä É fun r8=>k r8) (Ä (Ω a0) fun r9=>ifb (ine r9 (0:Int)) (Ä É fun r10=>k r10) (Ä (Ź a0.2 a1) fun r11=>ifb (!r11) (Ä É fun r12=>k r12) (Ä (wL a0 a1) fun r13=>ifb (ine r13.2 (0:Int)) (Ä É fun r14=>k r14) (Ä (ŭ a0 a1) fun r15=>Ä (ź r15) fun r16=>ifb (!r16) (Ä É fun r17=>k r17) (Ä (Φ r15 a2 a3) fun r18=>ifb (!r18) (Ä É fun r19=>k r19) (Ä (pQ a0 a1) fun r20=>Ä (nI a0 a6) fun r21=>Ä (nH a0 a4) fun r22=>Ä (GQ a0) fun r23=>Ä (AX a0) fun r24=>ifb (ine r20.2 (0:Int)) (k false) (ifb (ine r21.2 (0:Int)) (k false) (ifb (!r20.1) (k false) (ifb (!r21.1) (k false) (ifb r22.1 (k false) (ifb (ine r23.2 (5:Int)) (k false) (ifb (ine r24.2 (5:Int)) (k false) (ifb (ine r22.2 (0:Int)) (ifb (ine r22.2 (5:Int)) (k false) (Ä (õ a0.2 a1 a4 a5) fun r25=>Ä (ķ a0.1 r25) fun r26=>Ä (oQ a0 a4 a5) fun r27=>ifb (ieq r27.2 (5:Int)) (ifb (ieq r22.2 (0:Int)) (k false) (ifb (ieq r27.2 (0:Int)) (Í (fun(v57:(Val (.pair .bool tI))) kk60=>Ï a2 a5 r25 r26 r27.1 a0.1.2.1 v57.1 v57.2 (fun u58 u59=>kk60 (u58,u59)) (fun z38=>ifb (!z38) (k false) (Ä (jL a0) fun r39=>Í (fun(v54:Int) kk56=>Ë a1 r39.1 a0.2 v54 (fun u55=>kk56 u55) (fun z44=>k z44) (fun _=>Ä (ņ r15 (r25,a5)) fun r46=>Ä É fun r47=>ifb r47 (ifb (ieq r39.2 (0:Int)) (ifb (ine r46.2 (0:Int)) (k true) (ifb (ilt r26 (0:Int)) (k true) (ą a0.1.2.1 r26 fun e48=>ą a2 r26 fun e49=>Ä (Ì e48 e49 a5) fun r50=>ifb (ige r50 r46.1.1) (ą a0.1.2.1 r26 fun e51=>ą a2 r26 fun e52=>Ä (Ì e51 e52 a5) fun r53=>k (ile r53 r46.1.2)) (k false)))) (k false)) (k false))) (0:Int)))) (false,(0:Int))) (Ä (jL a0) fun r61=>Í (fun(v72:Int) kk74=>Ë a1 r61.1 a0.2 v72 (fun u73=>kk74 u73) (fun z62=>k z62) (fun _=>Ä (ņ r15 (r25,a5)) fun r64=>Ä É fun r65=>ifb r65 (ifb (ieq r61.2 (0:Int)) (ifb (ine r64.2 (0:Int)) (k true) (ifb (ilt r26 (0:Int)) (k true) (ą a0.1.2.1 r26 fun e66=>ą a2 r26 fun e67=>Ä (Ì e66 e67 a5) fun r68=>ifb (ige r68 r64.1.1) (ą a0.1.2.1 r26 fun e69=>ą a2 r26 fun e70=>Ä (Ì e69 e70 a5) fun r71=>k (ile r71 r64.1.2)) (k false)))) (k false)) (k false))) (0:Int)))) (ifb (ieq r27.2 (0:Int)) (Í (fun(v90:(Val (.pair .bool tI))) kk93=>Ï a2 a5 r25 r26 r27.1 a0.1.2.1 v90.1 v90.2 (fun u91 u92=>kk93 (u91,u92)) (fun z75=>ifb (!z75) (k false) (Ä (jL a0) fun r76=>Í (fun(v87:Int) kk89=>Ë a1 r76.1 a0.2 v87 (fun u88=>kk89 u88) (fun z77=>k z77) (fun _=>Ä (ņ r15 (r25,a5)) fun r79=>Ä É fun r80=>ifb r80 (ifb (ieq r76.2 (0:Int)) (ifb (ine r79.2 (0:Int)) (k true) (ifb (ilt r26 (0:Int)) (k true) (ą a0.1.2.1 r26 fun e81=>ą a2 r26 fun e82=>Ä (Ì e81 e82 a5) fun r83=>ifb (ige r83 r79.1.1) (ą a0.1.2.1 r26 fun e84=>ą a2 r26 fun e85=>Ä (Ì e84 e85 a5) fun r86=>k (ile r86 r79.1.2)) (k false)))) (k false)) (k false))) (0:Int)))) (false,(0:Int))) (Ä (jL a0) fun r94=>Í (fun(v105:Int) kk107=>Ë a1 r94.1 a0.2 v105 (fun u106=>kk107 u106) (fun z95=>k z95) (fun _=>Ä (ņ r15 (r25,a5)) fun r97=>Ä É fun r98=>ifb r98 (ifb (ieq r94.2 (0:Int)) (ifb (ine r97.2 (0:Int)) (k true) (ifb (ilt r26 (0:Int)) (k true) (ą a0.1.2.1 r26 fun e99=>ą a2 r26 fun e100=>Ä (Ì e99 e100 a5) fun r101=>ifb (ige r101 r97.1.1) (ą a0.1.2.1 r26 fun e102=>ą a2 r26 fun e103=>Ä (Ì e102 e103 a5) fun r104=>k (ile r104 r97.1.2)) (k false)))) (k false)) (k false))) (0:Int))))) (Ä (õ a0.2 a1 a4 a5) fun r108=>Ä (ķ a0.1 r108) fun r109=>Ä (oQ a0 a4 a5) fun r110=>ifb (ieq r110.2 (5:Int)) (ifb (ieq r22.2 (0:Int)) (k false) (ifb (ieq r110.2 (0:Int)) (Í (fun(v126:(Val (.pair .bool tI))) kk129=>Ï a2 a5 r108 r109 r110.1 a0.1.2.1 v126.1 v126.2 (fun u127 u128=>kk129 (u127,u128)) (fun z111=>ifb (!z111) (k false) (Ä (jL a0) fun r112=>Í (fun(v123:Int) kk125=>Ë a1 r112.1 a0.2 v123 (fun u124=>kk125 u124) (fun z113=>k z113) (fun _=>Ä (ņ r15 (r108,a5)) fun r115=>Ä É fun r116=>ifb r116 (ifb (ieq r112.2 (0:Int)) (ifb (ine r115.2 (0:Int)) (k true) (ifb (ilt r109 (0:Int)) (k true) (ą a0.1.2.1 r109 fun e117=>ą a2 r109 fun e118=>Ä (Ì e117 e118 a5) fun r119=>ifb (ige r119 r115.1.1) (ą a0.1.2.1 r109 fun e120=>ą a2 r109 fun e121=>Ä (Ì e120 e121 a5) fun r122=>k (ile r122 r115.1.2)) (k false)))) (k false)) (k false))) (0:Int)))) (false,(0:Int))) (Ä (jL a0) fun r130=>Í (fun(v141:Int) kk143=>Ë a1 r130.1 a0.2 v141 (fun u142=>kk143 u142) (fun z131=>k z131) (fun _=>Ä (ņ r15 (r108,a5)) fun r133=>Ä É fun r134=>ifb r134 (ifb (ieq r130.2 (0:Int)) (ifb (ine r133.2 (0:Int)) (k true) (ifb (ilt r109 (0:Int)) (k true) (ą a0.1.2.1 r109 fun e135=>ą a2 r109 fun e136=>Ä (Ì e135 e136 a5) fun r137=>ifb (ige r137 r133.1.1) (ą a0.1.2.1 r109 fun e138=>ą a2 r109 fun e139=>Ä (Ì e138 e139 a5) fun r140=>k (ile r140 r133.1.2)) (k false)))) (k false)) (k false))) (0:Int)))) (ifb (ieq r110.2 (0:Int)) (Í (fun(v159:(Val (.pair .bool tI))) kk162=>Ï a2 a5 r108 r109 r110.1 a0.1.2.1 v159.1 v159.2 (fun u160 u161=>kk162 (u160,u161)) (fun z144=>ifb (!z144) (k false) (Ä (jL a0) fun r145=>Í (fun(v156:Int) kk158=>Ë a1 r145.1 a0.2 v156 (fun u157=>kk158 u157) (fun z146=>k z146) (fun _=>Ä (ņ r15 (r108,a5)) fun r148=>Ä É fun r149=>ifb r149 (ifb (ieq r145.2 (0:Int)) (ifb (ine r148.2 (0:Int)) (k true) (ifb (ilt r109 (0:Int)) (k true) (ą a0.1.2.1 r109 fun e150=>ą a2 r109 fun e151=>Ä (Ì e150 e151 a5) fun r152=>ifb (ige r152 r148.1.1) (ą a0.1.2.1 r109 fun e153=>ą a2 r109 fun e154=>Ä (Ì e153 e154 a5) fun r155=>k (ile r155 r148.1.2)) (k false)))) (k false)) (k false))) (0:Int)))) (false,(0:Int))) (Ä (jL a0) fun r163=>Í (fun(v174:Int) kk176=>Ë a1 r163.1 a0.2 v174 (fun u175=>kk176 u175) (fun z164=>k z164) (fun _=>Ä (ņ r15 (r108,a5)) fun r166=>Ä É fun r167=>ifb r167 (ifb (ieq r163.2 (0:Int)) (ifb (ine r166.2 (0:Int)) (k true) (ifb (ilt r109 (0:Int)) (k true) (ą a0.1.2.1 r109 fun e168=>ą a2 r109 fun e169=>Ä (Ì e168 e169 a5) fun r170=>ifb (ige r170 r166.1.1) (ą a0.1.2.1 r109 fun e171=>ą a2 r109 fun e172=>Ä (Ì e171 e172 a5) fun r173=>k (ile r173 r166.1.2)) (k false)))) (k false)) (k false))) (0:Int))))))))))))))))))))))))
theorem acJ (a0:Val Â) (a1:(Val (.slice (.slice tI)))) (a2:(Val (.slice Ŋ))) (a3:(Val (.slice Ĥ))) (a4:Int) (a5:Int) (a6:(Val (.slice tI))) (k:Bool→Option Bool):ħ a0 a1 a2 a3 a4 a5 a6 k=ahq a0 a1 a2 a3 a4 a5 a6 k:=rfl
theorem XW {m:Ū} (hn:∀g∈m.1.2.1,I64 g.2.2.2.2.1.1) (w:Way) (lives:List Lif) (seen:List (Int×Int×Int)) (label d:Int) (ids:List Int):Ī m w lives seen label d ids=some true:=by
 unfold Ī;rw[acJ];unfold ahq;rw[age]
 have gate:∀{c:Bool} {Z:Option Bool},(c=false→Z=some true)→ifb c (Ä (some true) fun r=>some r) Z=some true:=fun {c} {Z} h=>by
  cases c with
  |true=>rfl
  |false=>exact h rfl
 refine gate fun c1=>gate fun c2=>gate fun c3=>gate fun c4=>gate fun c5=>gate fun c6=>gate fun c7=>gate fun c8=>?_;rw[Ý] at c1 c2 c3 c4 c5 c6 c7 c8;have c1:=of_decide_eq_false c1;have c2:=of_decide_eq_false c2;have c3:=of_decide_eq_false c3;have c4:=of_decide_eq_false c4;have c5:=of_decide_eq_false c5;have c6:=of_decide_eq_false c6;have c7:=of_decide_eq_false c7;have c8:=of_decide_eq_false c8;have hSz:ahd m.1:=⟨by omega,by omega,by omega,by omega,by omega⟩;obtain⟨e,he,hin⟩:=ae0 hSz hn (by omega);rw[he,À];refine gate fun c9=>?_
 have e0:e=0:=by simpa[ine] using c9
 have hI:=hin e0
 have hck:ζ m=0:=by
  have:=oZ (m:=m) hI (by omega);rw[he,e0] at this;exact(Option.some.inj this).symm
 have h:=(Ι m).1 hck;obtain⟨r,hr,hsh⟩:=acV (ms:=m.2) (w:=w) (by omega);rw[hr,À];refine gate fun c10=>?_
 have hwl:∀l∈w,l.length≤100000:=fun l hl=>by
  obtain⟨y,hy,e⟩:=hsh (by simpa using c10) l hl;have:=h.len5 y hy;omega
 rw[acf hI (by omega) hwl,À];refine gate fun c11=>?_
 have hask:yL m w=0:=by
  unfold Zg at c11
  by_cases q:yL m w=0
  ·exact q
  ·rw[if_pos q] at c11; simp[ine,q] at c11
 have hw:=(En.1 hask).2;rw[aa8 h hw,À]
 have hUs:yN (JF m w):=by
  have:=(rh h hw).size;exact⟨this.gauges,this.uses,this.loans,this.compares,by simp[JF],this.piles⟩
 obtain⟨r2,hr2,hmod⟩:=adz (b:=JF m w) ⟨hUs,hn⟩;rw[hr2,À];refine gate fun c12=>?_;obtain⟨hUg,hM⟩:=hmod (by simpa using c12);obtain⟨r3,hr3,htr⟩:=afK (b:=JF m w) ⟨hUs,hn⟩ hUg hM lives seen;rw[hr3,À];refine gate fun c13=>?_;obtain⟨hlv,hrt⟩:=htr (by simpa using c13);have T:W5 m w lives:=⟨hn,hI,h,hw,hUg,hM,hlv,acF hUg hM hlv hrt⟩;have hsm:=T.some;rw[Zk hI (by omega) hwl,À,Xe hI (by omega) (by omega),À,W0 hI (by omega),À,aja hI (by omega),À,ahg hI (by omega),À]
 have x1:Hb m w=(true,0):=by unfold Hb; rw[if_neg (by simp[hask]),T.expl]
 have hany:∀p:Cmp→Bool,vw (acl m p)=true:=fun p=>afT (q:=fun _=>true) h (fun _ _ _=>rfl) (by rw[aiK fun _ _=>rfl]; exact hsm)
 have x2:BZ m ids=(true,0):=by unfold BZ; rw[if_neg (by simp[hck])]; exact congrArg (·,(0:Int)) (hany _)
 have x4:ahk m=([],5):=by unfold ahk; rw[if_neg (by simp[hck]),hsm,if_pos rfl]
 have x5:aa1 m=([],5):=by unfold aa1; rw[if_neg (by simp[hck]),hsm,if_pos rfl]
 have x3:(kH m label).1=false∧((kH m label).2=0∧wH m.1 label∨(kH m label).2=5):=by
  unfold kH;rw[if_neg (by simp[hck])]
  by_cases hk:mQ m.1 label 0=0
  ·rw[if_neg (by simp[hk]),hany];exact⟨rfl,.inl ⟨rfl,(yj.1 hk).2⟩⟩
  ·rw[if_pos hk];refine⟨rfl,.inr ?_⟩;unfold mQ at hk ⊢;rw[show GW 0=true by decide] at hk ⊢;rw[if_neg (by simp)] at hk ⊢
   cases hg:ç m.1 label with
   |none=>rfl
   |some g=>rw[hg] at hk; exact absurd rfl hk
 rw[x1,x2,x4,x5,Ò (by rfl),Ò (by rfl),Ò (by rfl),Ò (by rfl),Ò (by rw[x3.1]),Ò (by rfl),Ò (by rfl)];obtain⟨K,hK,hfind⟩:∃K:Int,(K=match m.1.2.1.findIdx? (fun g=>g.1==Ň m.2 w label d) with|some j=>(j:Int)|none=>-1)∧ķ m.1 (Ň m.2 w label d)=some K:=⟨_,rfl,aeo (b:=m.1) (by omega) (Ň m.2 w label d)⟩;have tail:=afM (label:=label) (d:=d) T K hK
 have hnot:(kj m label d).2=5→(kH m label).2≠0:=fun q hg0=>by
  rcases x3.2 with⟨_,hk⟩|hg5
  ·have hc:=WF h label d
   by_cases hkn:mQ m.1 label d=0
   ·rw[if_neg (by simp[hkn]),if_neg T.ne] at hc
    by_cases hs:K6 m (label,d)=0
    ·rw[if_neg (by simp[hs])] at hc; rw[hc] at q; cases q
    ·rw[if_pos hs] at hc; rw[hc] at q; exact acX h hkn q
   ·rw[if_pos hkn] at hc;rw[hc] at q;obtain⟨y,hy⟩:=hk;unfold mQ at q;rw[hy] at q
    cases hd:GW d with
    |false=>rw[hd] at q; cases q
    |true=>rw[hd] at q; cases q
  ·omega
 rw[T.bear,À,hfind,À,Xf hI (by omega),À,tail]
 have fin:∀L1 L2:Option Bool,((kj m label d).2=0→L1=some true∧L2=some true)→ifb (ieq (kj m label d).2 (5:Int)) (ifb (ieq (kH m label).2 (0:Int)) (some false) (ifb (ieq (kj m label d).2 (0:Int)) L1 (some true))) (ifb (ieq (kj m label d).2 (0:Int)) L2 (some true))=some true:=fun L1 L2 hL=>by
  by_cases q5:(kj m label d).2=5
  ·rw[Ü (by simp[ieq,q5]),Ò (by simp[ieq,hnot q5]),Ò (by rw[q5]; rfl)]
  ·rw[Ò (by simp[ieq,q5])]
   by_cases q0:(kj m label d).2=0
   ·rw[Ü (by simp[ieq,q0]),(hL q0).2]
   ·rw[Ò (by simp[ieq,q0])]
 by_cases g0:(kH m label).2=0
 ·rw[Ò (by simp[ine,g0])];exact fin _ _ fun q0=>⟨EC T q0 K hK _,EC T q0 K hK _⟩
 ·rw[Ü (by simp[ine,g0])];rcases x3.2 with⟨q,_⟩|q
  ·exact absurd q g0
  ·rw[Ò (by simp[ine,q])];exact fin _ _ fun q0=>⟨EC T q0 K hK _,EC T q0 K hK _⟩
end Go.Proofs.ZzM
end
