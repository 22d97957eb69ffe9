/- lemmas -/
import Derived.Test.YtjlkjopcjcbooaaGreatDoorPlA
import Derived.Test.YtjlkjopcjcbooaaGreatDoorMdTA
import Derived.Test.YtjlkjopcjcbooaaGreatDoorAmC
import Derived.Laws.Strings
import Derived.Lib.SplitLaws
import Derived.Lib.AtoiAllCases
import Derived.Laws.RangeAny
set_option linter.all false
noncomputable section
namespace Go.Proofs.ZzM
open Go Go.Am
def VX (f:Int->Int->Int) (z:Int) (l:y5 Int) (d:Int):Int:=match l with|[]=>z|x::_=>f x d
def UR (f:Int->Int->Int) (z:Int) (c:Cmp):Int:=VX f z (Ě c.2.2.1 c.2.2.2.1) c.2.1-VX f z (Ě c.2.2.2.1 c.2.2.1) c.2.1
structure abI (b:Ý) (f:Int->Int->Int) (z:Int) (g:é):Prop where
 hi:f g.1 g.2.1<=z+(g.2.2.1+g.2.2.2.1.2)
 lo:z+(g.2.2.1+g.2.2.2.1.1)<=f g.1 g.2.1
 down:∀d e,g.2.1<=d->d<=e->f g.1 e<=f g.1 d
 loss:∀d e,g.2.1<=d->d<=e->f g.1 d<=f g.1 e+iN b g d e
structure Pp (b:Ý) (f:Int->Int->Int) (z:Int):Prop where
 gauge:∀g∈b.2.1,abI b f z g
 cmp:∀c∈b.2.2.2.2.1,(pH b c).1<=UR f z c/\UR f z c<=(pH b c).2
def X2 {b:Ý} (h:Ğ b) {p:Int->Int} (o:∀g∈b.2.1,qM b p g):∃f:Int->Int->Int,(∀g∈b.2.1,abI b f (p 0) g)/\∀g∈b.2.1,∀d∈ß b g,f g.1 d=p (Ÿ b g.1 d):=by
 let f:Int->Int->Int:=fun id d=>match gY b id with|some g=>fill b p g d|none=>0
 have j:∀g∈b.2.1,∀d,f g.1 d=fill b p g d:=fun g a d=>by
  show(match gY b g.1 with|some g=>fill b p g d|none=>0)=_;rw[ζ h.ids a]
 refine⟨f,fun g a=>?_,fun g a d hd=>by rw[j g a]; exact Tc h a (o g a) hd⟩;have m:=o g a
 have q:f g.1 g.2.1=p (Ÿ b g.1 g.2.1):=by rw[j g a]; exact Tc h a m (sd g)
 refine⟨by rw[q]; exact m.hi,by rw[q]; exact m.lo,fun d e h0 k=>?_,fun d e h0 k=>?_⟩
 ·rw[j g a,j g a];exact(OK h a m h0 k).1
 ·rw[j g a,j g a];exact(OK h a m h0 k).2
def MK {b:Ý} {f:Int->Int->Int} {p:Int->Int} (k:∀g∈b.2.1,∀d∈ß b g,f g.1 d=p (Ÿ b g.1 d)) {l:y5 Int} {a:Int} (hl:∀x∈l,∃g∈b.2.1,g.1=x/\a∈ß b g):p (Pf b l a)=VX f (p 0) l a:=by
 cases l with
 |nil=>rfl
 |cons x t =>
  obtain⟨g,j,rfl,e⟩:=hl x (by simp);exact(k g j a e).symm
def Yh {b:Ý} {f:Int->Int->Int} {p:Int->Int} (e:∀g∈b.2.1,∀d∈ß b g,f g.1 d=p (Ÿ b g.1 d)) {c:Cmp}
 (hl:∀x,x∈Ě c.2.2.1 c.2.2.2.1\/x∈Ě c.2.2.2.1 c.2.2.1->∃g∈b.2.1,g.1=x/\c.2.1∈ß b g):p (cx b c)-p (cy b c)=UR f (p 0) c:=by
 unfold UR;rw[Yo,Yn,MK e (fun x a=>hl x (.inl a)),MK e (fun x a=>hl x (.inr a))]
def I1 {b:Ý} (h:Ğ b) (f:Int->Int->Int) (z:Int) {l:y5 Int} {a:Int} (hl:∀x∈l,∃g∈b.2.1,g.1=x/\a∈ß b g):Py b f z (Pf b l a)=VX f z l a:=by
 rw[Ve h f z hl];unfold VX
 cases l<;>rfl
def MZ {b:Ý} (h:Ğ b) {f:Int->Int->Int} {z:Int} {c:Cmp} (hl:∀x,x∈Ě c.2.2.1 c.2.2.2.1\/x∈Ě c.2.2.2.1 c.2.2.1->∃g∈b.2.1,g.1=x/\c.2.1∈ß b g):Py b f z (cx b c)-Py b f z (cy b c)=UR f z c:=by
 unfold UR;rw[Yo,Yn,I1 h f z (fun x a=>hl x (.inl a)),I1 h f z (fun x a=>hl x (.inr a))]
def I0 {b:Ý} (h:Ğ b) {f:Int->Int->Int} {z:Int} {g:é} (k:g∈b.2.1) (j:abI b f z g):qM b (Py b f z) g:=by
 have q:∀d∈ß b g,Py b f z (Ÿ b g.1 d)=f g.1 d:=fun d hd=>EG h f z k hd;have o:=q g.2.1 (sd g);refine⟨?_,?_,fun d e hd m a=>?_,fun d e hd m a=>?_⟩
 ·rw[o,tD]; exact j.hi
 ·rw[o,tD]; exact j.lo
 ·rw[q d hd,q e m]; exact j.down d e (h.day k hd).1 a
 ·rw[q d hd,q e m]; exact j.loss d e (h.day k hd).1 a
section
variable {b:Ý} {c:Cmp}
def RK (h:Ğ b) {p:Int->Int} (hp:Pot (þ b) p):∃f,Pp b f (p 0)/\∀g∈b.2.1,∀d∈ß b g,f g.1 d=p (Ÿ b g.1 d):=by
 obtain⟨k,o⟩:=(Wo h).1 hp;obtain⟨f,m,e⟩:=X2 h k;refine⟨f,⟨m,fun c a=>?_⟩,e⟩;have:=Yh e (c:=c) (fun x j=>Lq h a j);have:=o c a;omega
def SQ (h:Ğ b) {f:Int->Int->Int} {z:Int} (a:Pp b f z):Pot (þ b) (Py b f z):=by
 refine(Wo h).2 ⟨fun g d=>I0 h d (a.gauge g d),fun c e=>?_⟩;have:=MZ (f:=f) (z:=z) h (c:=c) (fun x j=>Lq h e j);have:=a.cmp c e;omega
def Nr (h:Ğ b):ŷ (þ b) ((Õ b).length+1)=true↔∃f z,Pp b f z:=by
 have:=h.sys.n60;rw[Ţ h.sys.links (by omega)];constructor
 ·rintro⟨p,hp⟩;obtain⟨f,d,_⟩:=RK h hp;exact⟨f,_,d⟩
 ·rintro⟨f,z,a⟩;exact⟨_,SQ h a⟩
end
section
variable {b x:Ý}
def UF (h:Ğ b) {g g':é} (f:g∈b.2.1) (a:g'∈b.2.1) (e:g.1=g'.1):g=g':=by
 have d:=ζ h.ids f;have h2:=ζ h.ids a;rw[e,h2] at d;exact(Option.some.inj d).symm
end
def kr (b:Ý) (n:Int×Int):Prop:=∃g∈b.2.1,g.1=n.1/\n.2∈ß b g
theorem Lx {b:Ý} (h:Ğ b) {n:Int×Int}:ur b n.1 n.2≠0↔kr b n:=by
 unfold ur;constructor
 ·intro a
  cases m:iC (Õ b) n.1 n.2 with
  |none=>rw[m] at a; simp at a
  |some j =>
   have o:=List.mem_of_getElem? (jo m).2;unfold Õ at o;obtain⟨g,f,hd⟩:=List.mem_flatMap.1 o;obtain⟨d,hd,e⟩:=List.mem_map.1 hd;simp only[Prod.mk.injEq] at e;obtain⟨q,rfl⟩:=e;exact⟨g,f,q,hd⟩
 ·rintro⟨g,f,e,hd⟩;obtain⟨i,hi,rfl⟩:=List.mem_iff_getElem.1 f;obtain⟨k,hk,p⟩:=List.mem_iff_getElem.1 hd;rw[<-e,KK h (List.getElem?_eq_getElem hi) (by rw[List.getElem?_eq_getElem hk,p])];dsimp only;omega
theorem Oy (b:Ý) (x d:Int):ur b x d=Ÿ b x d:=rfl
theorem Yk (b:Ý) (n:Int×Int) (g:é) {d:Int} (hd:d∈ß b g):d∈ß (l9 b n) g:=by
 unfold ß at hd ⊢;rw[oh] at hd ⊢;unfold LL l9 at *;simp only[List.mem_append,List.mem_map,List.mem_filter] at hd ⊢;rcases hd with(h|h)|⟨m,⟨e,h2⟩,a⟩
 ·exact .inl (.inl h)
 ·exact .inl (.inr h)
 ·exact .inr ⟨m,⟨.inl e,h2⟩,a⟩
theorem Xn {b:Ý} (n:Int×Int) (h':Ğ (l9 b n)):kr (l9 b n) n:=by
 have a:=h'.looks n (by simp[l9]);unfold Rp at a
 split at a
 ·omega
 obtain⟨g,f,_⟩:=pQ h' a;obtain⟨d,e⟩:=ţ f;refine⟨g,d,e,?_⟩;unfold ß;rw[oh];unfold LL l9;simp only[List.mem_append,List.mem_map,List.mem_filter];exact .inr ⟨n,⟨.inr (by simp),by simp[e]⟩,rfl⟩
theorem Eo {b:Ý} {n:Int×Int} (e:(mr b n).2=0):(mr b n=(b,0)/\ur b n.1 n.2≠0)\/(mr b n=(l9 b n,0)/\Ğ (l9 b n)/\ur b n.1 n.2=0):=by
 unfold mr at e ⊢
 split
 ·rename_i h; exact .inl ⟨rfl,h⟩
 ·rename_i a;rw[if_neg a] at e
  split
  ·rename_i h2; rw[if_pos h2] at e; exact absurd e h2
  ·rename_i h2; exact .inr ⟨rfl,(ú _).1 (by simpa using h2),by simpa using a⟩
theorem MT:∀{ns:y5 (Int×Int)} {b:Ý},(Ŷ b ns).2=0->∀n,kr b n->kr (Ŷ b ns).1 n
 |[],b,_,n,hn=>hn
 |m::t,b,e,n,hn=>by
  unfold Ŷ at e ⊢
  split
  ·rename_i a; rw[if_pos a] at e; exact absurd e a
  ·rename_i a;rw[if_neg a] at e;refine MT e n ?_;rcases Eo (by simpa using a) with⟨h,_⟩|⟨h,_,_⟩
   ·rw[h]; exact hn
   ·rw[h];obtain⟨g,d,f,hd⟩:=hn;exact⟨g,d,f,Yk b m g hd⟩
theorem MS:∀{ns:y5 (Int×Int)} {b:Ý},Ğ b->(Ŷ b ns).2=0->∀n∈ns,kr (Ŷ b ns).1 n
 |[],b,_,_,n,hn=>by simp at hn
 |m::t,b,f,e,n,hn=>by
  unfold Ŷ at e ⊢
  split
  ·rename_i d; rw[if_pos d] at e; exact absurd e d
  ·rename_i d;rw[if_neg d] at e
   have a:(mr b m).2=0:=by simpa using d
   rcases b9.1 hn with rfl|hn
   ·refine MT e n ?_;rcases Eo a with⟨h,h2⟩|⟨h,h2,_⟩
    ·rw[h]; exact(Lx f).1 h2
    ·rw[h]; exact Xn n h2
   ·exact MS (MD f a) e n hn
theorem Xo {b:Ý} {n:Int×Int} {f:Int->Int->Int} {z:Int}:Pp (l9 b n) f z↔Pp b f z :=
 ⟨fun h=>⟨fun g a=>by have:=h.gauge g a; exact⟨this.hi,this.lo,this.down,this.loss⟩,h.cmp⟩,fun h=>⟨fun g a=>by have:=h.gauge g a; exact⟨this.hi,this.lo,this.down,this.loss⟩,h.cmp⟩⟩
theorem MU:∀{ns:y5 (Int×Int)} {b:Ý},(Ŷ b ns).2=0->∀{f:Int->Int->Int} {z:Int},Pp (Ŷ b ns).1 f z↔Pp b f z
 |[],b,_,f,z=>Iff.rfl
 |m::t,b,e,f,z=>by
  unfold Ŷ at e ⊢
  split
  ·rename_i a; rw[if_pos a] at e; exact absurd e a
  ·rename_i a;rw[if_neg a] at e;rw[MU e];rcases Eo (by simpa using a) with⟨h,_⟩|⟨h,_,_⟩
   ·rw[h]
   ·rw[h]; exact Xo
section
variable {B:Ý} (h:acl B)
include h
theorem aai {p:Int->Int} {f:Int->Int->Int} (a:∀g∈B.2.1,∀d∈ß B g,f g.1 d=p (Ÿ B g.1 d)) {n:Int×Int} (hn:kr B n):p (ur B n.1 n.2)=f n.1 n.2:=by
 obtain⟨g,j,e,hd⟩:=hn;rw[Oy,<-e,a g j n.2 hd]
theorem RI (f:Int->Int->Int) (z:Int) {n:Int×Int} (hn:kr B n):Py B f z (ur B n.1 n.2)=f n.1 n.2:=by
 obtain⟨g,a,e,hd⟩:=hn;rw[Oy,<-e,EG h.good f z a hd]
theorem iv_in {n:Int×Int} (hn:kr B n) {f:Int->Int->Int} {z:Int} (a:Pp B f z):(ivR B n).1<=f n.1 n.2-z/\f n.1 n.2-z<=(ivR B n).2:=by
 have hp:=SQ h.good a;have e:=LH h.good.sys h.good.tied h.op (me B n) (iU B) hp;have d:=LH h.good.sys h.good.tied h.op (iU B) (me B n) hp;rw[RI h f z hn,tD] at e d;unfold ivR Mn;dsimp only;omega
theorem aaG {n:Int×Int} (hn:kr B n) {t:Int} (g:(ivR B n).1<=t) (h2:t<=(ivR B n).2):∃f z,Pp B f z/\f n.1 n.2-z=t:=by
 obtain⟨p,hp,e⟩:=adB h.good.sys h.good.tied h.op (me B n) (iU B) (t:=t) g h2;obtain⟨f,d,a⟩:=RK h.good hp;exact⟨f,p 0,d,by rw[<-aai h a hn]; exact e⟩
theorem SL (n:Int×Int):(ivR B n).1<=(ivR B n).2:=GS h.good.sys h.good.tied h.op (me B n) (iU B)
end
structure Asked (b:Ý) (ns:y5 (Int×Int)) (B:Ý):Prop where
 room:acl B
 nodes:∀n∈ns,kr B n
 hist:∀{f:Int->Int->Int} {z:Int},Pp B f z↔Pp b f z
 good:Ğ b
 gauges:B.2.1=b.2.1
theorem Ue {b:Ý} (hI:In b) {ns:y5 (Int×Int)} (e:(iw b ns).2=0):Asked b ns (iw b ns).1:=by
 obtain⟨f,h2,a,d⟩:=yK hI e;exact⟨f,by rw[h2]; exact MS d a,by rw[h2]; exact MU a,d,by rw[h2]; exact qR a⟩
def J8 (c:Cmp):Bool:=decide (c.2.2.1.length<=10)&&decide (c.2.2.2.1.length<=10)
theorem YY (c:Cmp):vy c=some (J8 c):=by
 unfold vy Jl J8;rw[è,è,ģ]
 by_cases h:c.2.2.1.length<=10
 ·rw[if_pos (by simp[ile]; omega)];simp[ile,h];omega
 ·rw[if_neg (by simp[ile]; omega)];simp[h]
def fewP (b:Ý):Bool :=
 !((b.2.2.2.2.1.take 50).any fun c=>!J8 c)&&(decide (b.2.1.length<=14)&&(decide (b.2.2.1.length<=45)&&(decide (b.2.2.2.1.length<=14)&&(decide (b.2.2.2.2.1.length<=42)&&decide (b.2.2.2.2.2.length<=12)))))
theorem few_ok (b:Ý):Eb b=some (fewP b):=by
 unfold Eb Sj
 have last:(ifb (ile (Û b.2.1) (14:Int)) (ifb (ile (Û b.2.2.1) (45:Int)) (ifb (ile (Û b.2.2.2.1) (14:Int)) (ifb (ile (Û b.2.2.2.2.1) (42:Int)) (some (ile (Û b.2.2.2.2.2) (12:Int))) (some false)) (some false)) (some false)) (some false)) =
  some (decide (b.2.1.length<=14)&&(decide (b.2.2.1.length<=45)&&(decide (b.2.2.2.1.length<=14)&&(decide (b.2.2.2.2.1.length<=42)&&decide (b.2.2.2.2.2.length<=12))))):=by
  have e:∀(n m:Nat),ile (n:Int) (m:Int)=decide (n<=m):=fun n m=>by simp[ile]
  rw[è,è,è,è,è,show(14:Int)=((14:Nat):Int) from rfl,show(45:Int)=((45:Nat):Int) from rfl,show(42:Int)=((42:Nat):Int) from rfl,show(12:Int)=((12:Nat):Int) from rfl,e,e,e,e,e];generalize decide (b.2.1.length<=14)=k;generalize decide (b.2.2.1.length<=45)=j;generalize decide (b.2.2.2.1.length<=14)=g;generalize decide (b.2.2.2.2.1.length<=42)=f
  cases k<;>cases j<;>cases g<;>cases f<;>rfl
 rw[last];refine fe (jR (b.2.2.2.2.1.take 50) (fun c=>!J8 c) (fun _=>some false) (some false) (some (decide (b.2.1.length<=14)&&(decide (b.2.2.1.length<=45)&&(decide (b.2.2.2.1.length<=14)&&(decide (b.2.2.2.2.1.length<=42)&&decide (b.2.2.2.2.2.length<=12)))))) (fun _=>rfl) (fun i c hi d kn=>?_) (fun kn=>?_)) ?_
 ·try dsimp only
  unfold qY;rw[List.length_take] at hi
  have a:b.2.2.2.2.1[i]?=some c:=by rw[dF] at d; split at d<;>simp_all
  rw[Ó (show i<b.2.2.2.2.1.length by omega),à (decide_eq_true (by omega)),Ç a,YY,À,ð (by omega) (by omega),ģ]
 ·try dsimp only
  unfold qY;rw[List.length_take,ģ]
  split
  ·rename_i h
   have h':50<b.2.2.2.2.1.length:=by rw[è] at h; simp[ilt] at h; omega
   rw[Ö (decide_eq_false (by omega))]
  ·rfl
 ·unfold fewP
  cases List.any (List.take 50 b.2.2.2.2.1) (fun c=>!J8 c)<;>rfl
theorem vw {b:Ý} (h:fewP b=true):j7 b:=by
 simp only[fewP,bZ,dE,decide_eq_true_eq] at h;obtain⟨h0,g,h2,f,e,d⟩:=h;refine⟨by omega,by omega,by omega,by omega,by omega,fun c a=>?_⟩;rw[dv (by omega)] at h0;have:=dK.1 h0 c a;simp[J8] at this;omega
end Go.Proofs.ZzM
end

noncomputable section
namespace Go.Proofs.ZzM
open Go Go.Am
abbrev BL:Type:=y5 UInt8
abbrev toL (s:ByteArray):BL:=s.data.toList
abbrev ofL (l:BL):ByteArray:=⟨l.toArray⟩
def PI {s t:ByteArray} (h:toL s=toL t):s=t:=by
 obtain⟨⟨s⟩⟩:=s; obtain⟨⟨t⟩⟩:=t; cases h; rfl
def EU (s:ByteArray):ofL (toL s)=s:=PI rfl
def mW (a b:BL):ofL a++ofL b=ofL (a++b):=PI (by rw[toL,ByteArray.toList_data_append])
def ô (l:BL):(ofL l).size=l.length:=by rw[Lib.size_eq]
def Kq (s:ByteArray):s.size=(toL s).length:=Lib.size_eq s
def WH {a b:BL} (h:ofL a=ofL b):a=b:=by have:=congrArg toL h; simpa using this
def Ρ (l:BL) (i j:Nat):(ofL l).extract i j=ofL ((l.take j).drop i):=by
 apply PI;have:=Lib.extract_toList (ofL l) i j;rw[ByteArray.toList_eq] at this;rw[toL,this,List.drop_take]
def Ck (a b:BL):((ofL a).toList==(ofL b).toList)=decide (a=b):=by
 rw[ByteArray.toList_eq,ByteArray.toList_eq]
 by_cases h:a=b
 ·simp[h]
 ·simp[h]
def uV (a b:BL):PT (ofL a) (ofL b)=decide (a=b):=rfl
open Lib in
def Yi {u k:Nat} (h:u<10 ^ (k+1)):(decDigits u).length<=k+1:=by
 induction k generalizing u with
 |zero=>rw[decDigits,dif_pos (by simpa using h)]; simp
 |succ k a =>
  rw[decDigits]
  split
  ·simp
  ·have:=a (u:=u / 10) (by rw[Nat.pow_succ] at h; omega);simp; omega
def GV (u:Nat):∀c∈Lib.decDigits u,48<=c.toNat/\c.toNat<=57:=by
 induction u using Nat.strongRecOn with
 |ind u ih =>
  rw[Lib.decDigits]
  have one:∀d:Nat,d<10->48<=(UInt8.ofNat (48+d)).toNat/\(UInt8.ofNat (48+d)).toNat<=57:=fun d hd=>by
   rw[UInt8.toNat_ofNat']; omega
  split
  ·intro c a; rw[ce.1 a]; exact one u (by omega)
  ·intro c a;rcases b8.1 a with a|a
   ·exact ih (u / 10) (by omega) c a
   ·rw[ce.1 a]; exact one (u % 10) (by omega)
def ab8 (u:Nat):Lib.decDigits u≠[]:=by
 rw[Lib.decDigits]; split<;>simp
def JN (n:Int):∀c∈Lib.itoa n,c.toNat=45\/48<=c.toNat/\c.toNat<=57:=by
 unfold Lib.itoa
 split
 ·intro c a;rcases b9.1 a with rfl|a
  ·exact .inl rfl
  ·exact .inr (GV _ c a)
 ·exact fun c a=>.inr (GV _ c a)
def aaH {n:Int} {k:Nat} (h:n.natAbs<10 ^ (k+1)):(Lib.itoa n).length<=k+2:=by
 unfold Lib.itoa
 split
 ·have:=Yi h; simp; omega
 ·have:=Yi (u:=n.toNat) (k:=k) (by omega); omega
def vq {n:Int} (h:I64 n):(Lib.itoa n).length<=20:=aaH (k:=18) (by obtain⟨a,h2⟩:=h; omega)
def Zs {n:Int} (h:I64 n):gA n=some (ofL (Lib.itoa n)):=by
 unfold gA XH i64B;simp[h.1,h.2,ofL]
def ZH (u:Nat) (a:u<18446744073709551616):∀(acc:Nat) (r:BL),acc=0->Lib.parseUint10 acc (Lib.decDigits u++r)=Lib.parseUint10 u r:=by
 induction u using Nat.strongRecOn with
 |ind u ih =>
  intro acc r ha;subst ha
  have one:∀d:Nat,d<10->(UInt8.ofNat (48+d)).toNat=48+d:=fun d hd=>by rw[UInt8.toNat_ofNat']; omega
  rw[Lib.decDigits]
  split
  ·rename_i h;simp only[dw,dL,Lib.parseUint10,one u h];rw[if_pos (by omega),if_neg (by omega),if_neg (by omega)];congr 1; omega
  ·rename_i h;rw[cq,ih (u / 10) (by omega) (by omega) 0 _ rfl];simp only[dw,dL,Lib.parseUint10,one (u % 10) (by omega)];rw[if_pos (by omega),if_neg (by omega),if_neg (by omega)];congr 1; omega
def W6 {u:Nat} (a:u<18446744073709551616):Lib.parseMag (Lib.decDigits u)=.ok u:=by
 unfold Lib.parseMag;rw[if_neg (ab8 u)];have:=ZH u a 0 [] rfl;rw[List.append_nil] at this;rw[this]; rfl
def Zb {n:Int} (h:I64 n):Lib.atoiAll (Lib.itoa n)=.ok n:=by
 obtain⟨d,h2⟩:=h;unfold Lib.itoa
 split
 ·rename_i h0;rw[Lib.atoiAll_minus,W6 (by omega)];unfold Lib.signed;simp only;rw[if_neg (by omega)];congr 1; omega
 ·rename_i h0
  obtain⟨c,r,a⟩:∃c r,Lib.decDigits n.toNat=c::r:=by
   cases h:Lib.decDigits n.toNat with
   |nil=>exact absurd h (ab8 _)
   |cons c r=>exact⟨c,r,rfl⟩
  have hd:=GV n.toNat c (by rw[a]; simp);rw[a,Lib.atoiAll_plain c r (by omega) (by omega),<-a,W6 (by omega)];unfold Lib.signless;simp only;rw[if_neg (by omega)];congr 1; omega
def jC (w:BL):Int:=match Lib.atoiAll w with|.ok v=>v|_=>0
def uL (w:BL):I64 (jC w):=by
 unfold jC
 split
 ·exact Lib.atoiAll_bounds (by assumption)
 ·exact⟨by omega,by omega⟩
def nh {n:Int} (h:I64 n):jC (Lib.itoa n)=n:=by unfold jC; rw[Zb h]
end Go.Proofs.ZzM
end

noncomputable section
namespace Go.Proofs.ZzM
open Go Go.Am
def O0 (c:UInt8):BL->BL->y5 BL
 |acc,[]=>[acc]
 |acc,b::l=>if b=c then acc::O0 c [] l else O0 c (acc++[b]) l
abbrev O1 (c:UInt8) (l:BL):y5 BL:=O0 c [] l
def Eg (c:UInt8):∀(w acc l:BL),(∀b∈w,b≠c)->O0 c acc (w++l)=O0 c (acc++w) l
 |[],acc,l,_=>by simp
 |b::w,acc,l,h=>by
  rw[dw,O0,if_neg (h b (by simp)),Eg c w _ l fun x a=>h x (by simp[a])];simp
def Eh (c:UInt8):∀(l acc:BL),(O0 c acc l).length<=l.length+1
 |[],_=>by simp[O0]
 |b::l,acc=>by
  rw[O0]
  split
  ·have:=Eh c l []; simp; omega
  ·have:=Eh c l (acc++[b]); simp; omega
def A0 (c:UInt8):∀(l acc:BL),∀w∈O0 c acc l,w.length<=acc.length+l.length
 |[],acc,w,h=>by rw[ce.1 h]; simp
 |b::l,acc,w,h=>by
  rw[O0] at h
  split at h
  ·rcases b9.1 h with rfl|h
   ·simp
   ·have:=A0 c l [] w h; simp at this ⊢; omega
  ·have:=A0 c l _ w h; simp at this ⊢; omega
def LQ (c:UInt8):∀(l acc:BL),∃w ws,O0 c acc l=w::ws
 |[],acc=>⟨_,_,rfl⟩
 |b::l,acc=>by
  rw[O0]
  split
  ·exact⟨_,_,rfl⟩
  ·exact LQ c l _
def spL (c:UInt8) (ws:y5 BL):BL:=ws.flatMap fun w=>c::w
def GY (c:UInt8):∀(ws:y5 BL) (w:BL),(∀b∈w,b≠c)->(∀v∈ws,∀b∈v,b≠c)->O1 c (w++spL c ws)=w::ws
 |[],w,h,_=>by
  have:=Eg c w [] [] h;rw[cn] at this;simp only[spL,fH,cn];rw[O1,this]; rfl
 |v::ws,w,h,hs=>by
  rw[O1,Eg c w [] _ h]
  have:spL c (v::ws)=c::(v++spL c ws):=by simp[spL]
  rw[this,O0,if_pos rfl,dL];rw[show O0 c [] (v++spL c ws)=_ from GY c ws v (hs v (by simp)) fun x a=>hs x (by simp[a])]
open Lib in
def Ou (c:UInt8):∀l:BL,(index l [c] = -1/\∀b∈l,b≠c)\/∃w r,l=w++c::r/\(∀b∈w,b≠c)/\index l [c]=w.length
 |[]=>.inl ⟨rfl,by simp⟩
 |b::l=>by
  by_cases h:b=c
  ·subst h;refine .inr ⟨[],l,rfl,by simp,?_⟩;unfold index; rw[if_pos (by simp[List.isPrefixOf])]; rfl
  ·have hp:List.isPrefixOf [c] (b::l)=false:=by simp[List.isPrefixOf,Ne.symm h]
   rcases Ou c l with⟨e,h2⟩|⟨w,r,rfl,h2,d⟩
   ·refine .inl ⟨by unfold index; rw[hp,e]; rfl,fun x a=>?_⟩;rcases List.mem_cons.1 a with rfl|a
    ·exact h
    ·exact h2 x a
   ·refine .inr ⟨b::w,r,rfl,fun x a=>?_,?_⟩
    ·rcases b9.1 a with rfl|a
     ·exact h
     ·exact h2 x a
    ·unfold index;rw[hp,d]
     have:(((w.length:Nat):Int)==-1)=false:=by rw[beq_eq_false_iff_ne]; omega
     simp[this]
def IP (c:UInt8):∀(k:Nat) (l:BL),l.count c=k->Lib.splitK [c] 0 k l=O1 c l
 |0,l,h=>by
  have h0:∀b∈l,b≠c:=fun b hb e=>List.count_eq_zero.1 h (e▸hb);have:=GY c [] l h0 (by simp);rw[show spL c []=[] from rfl,cn] at this;rw[this]; rfl
 |k+1,l,h=>by
  rcases Ou c l with⟨_,h2⟩|⟨w,r,rfl,h2,g⟩
  ·exact absurd (List.count_eq_zero.2 fun a=>h2 _ a rfl) (by omega)
  ·have d:w.count c=0:=List.count_eq_zero.2 fun a=>h2 _ a rfl
   have f:r.count c=k:=by rw[List.count_append,List.count_cons,d] at h; simp at h; omega
   rw[Lib.splitK,g,if_neg (by rw[beq_iff_eq]; omega),cp,eN,List.take_left,show w.length+[c].length=w.length+1 from rfl,O1,Eg c w [] _ h2,O0,if_pos rfl,dL];congr 1;rw[show(w++c::r).drop (w.length+1)=r by simp,IP c k r f]
def UX (l:BL) (c:UInt8):Lib.countB (ofL l) (ofL [c])=l.count c:=by
 have:Lib.countB (ofL l) (ofL [c])=Lib.count l [c]:=by
  first
   |exact Lib.countB_data _ _
   |rfl
   |(unfold Lib.countB; simp)
 rw[this,Lib.count_one]
def TH (l:BL) (c:UInt8) (hl:l.length<=1000000):nT (ofL l) (ofL [c])=some ((O1 c l).map ofL):=by
 unfold nT tp;rw[if_pos (by rw[ô,ô]; simp; omega),UX];congr 1;have h:=Lib.splitB_data (ofL [c]) 0 (l.count c) (ofL l);rw[show Lib.splitK (ofL [c]).data.toList 0 (l.count c) (ofL l).data.toList=O1 c l from IP c _ l rfl] at h;rw[<-h,List.map_map];exact(List.map_id' _).symm.trans (List.map_congr_left fun s _=>(EU s).symm)
def Ra (l p:BL) (hl:l.length<=1000000):Ň (ofL l) (ofL p)=some (ofL (Lib.trimSuffix l p)):=by
 unfold Ň VG;rw[if_pos (by rw[ô]; omega)]
def PF (l p:BL):Lib.trimSuffix (l++p) p=l:=by
 unfold Lib.trimSuffix Lib.hasSuffix;rw[if_pos (by simp[List.isSuffixOf_iff_suffix])];simp
def Kh (l p:BL):(Lib.trimSuffix l p).length<=l.length:=by
 unfold Lib.trimSuffix; split<;>simp
def adZ (xs:y5 BL) (c:UInt8) (a:xs.length<=1000000) (h2:(Lib.join xs [c]).length<=100000000):pv (xs.map ofL) (ofL [c])=some (ofL (Lib.join xs [c])):=by
 unfold pv XF
 have e:(xs.map ofL).map (·.data.toList)=xs:=by rw[List.map_map]; exact(dP fun x _=>rfl).trans (List.map_id _)
 rw[e,if_pos];rw[dg];simp only[bZ,decide_eq_true_eq];exact⟨by omega,by show(Lib.join xs [c]).length<=_; omega⟩
def XG (c:UInt8) (r:BL):∀w:BL,(∀b∈w,b≠c)->Lib.indexByte (w++c::r) c=w.length
 |[],_=>by rw[List.nil_append]; unfold Lib.indexByte; rw[if_pos (by simp)]; rfl
 |b::w,h=>by
  rw[List.cons_append];unfold Lib.indexByte;rw[if_neg (by simpa using h b (by simp)),XG c r w fun x a=>h x (by simp[a]),if_neg (by rw[beq_iff_eq]; omega)];simp
def BS:∀(n:Nat) (s:ByteArray),(mm n s).length<=n/\∀y∈mm n s,y.size<=s.size
 |0,s=>⟨bX _,by simp[mm]⟩
 |n+1,s=>by
  obtain⟨l,rfl⟩:∃l,s=ofL l:=⟨_,(EU s).symm⟩;rw[mm]
  split
  ·exact⟨cG _,by simp⟩
  ·split
   ·rw[Ρ,Ρ];have d:=BS n (ofL ((l.take (ofL l).size).drop (Lib.indexByte (ofL l).data.toList 10+1).toNat))
    have h2:(ofL ((l.take (ofL l).size).drop (Lib.indexByte (ofL l).data.toList 10+1).toNat)).size<=(ofL l).size:=by rw[ô,ô]; simp
    refine⟨by have:=d.1; rw[cj]; omega,fun y a=>?_⟩;rcases b9.1 a with rfl|a
    ·rw[ô,ô]; simp; omega
    ·exact cg (d.2 y a) h2
   ·exact⟨by simp,fun y a=>by rw[ce.1 a]; exact bX _⟩
def Oi:∀(n:Nat) (a:y5 BL),(∀l∈a,∀b∈l,b≠10)->(a.flatMap fun l=>l++[10]).length<=n->mm n (ofL (a.flatMap fun l=>l++[10]))=a.map fun l=>ofL (l++[10])
 |n,[],_,_=>by
  cases n with
  |zero=>rfl
  |succ n=>rw[mm,if_pos (by rw[ô]; rfl)]; rfl
 |0,l::a,_,hn=>by simp at hn
 |n+1,l::a,h,hn=>by
  have e:((l::a).flatMap fun l=>l++[10])=l++10::a.flatMap fun l=>l++[10]:=by simp
  rw[e] at hn ⊢;rw[mm,if_neg (by rw[ô]; simp)]
  have hi:Lib.indexByte (ofL (l++10::a.flatMap fun l=>l++[10])).data.toList 10=l.length:=by
   exact XG 10 _ l (h l (by simp))
  rw[hi,if_pos (by omega),show((l.length:Int)+1).toNat=l.length+1 by omega,Ρ,Ρ,ô,dC]
  have g:((l++10::a.flatMap fun l=>l++[10]).take (l.length+1)).drop 0=l++[10]:=by
   rw[List.drop_zero,show l++10::(a.flatMap fun l=>l++[10])=(l++[10])++a.flatMap fun l=>l++[10] by simp];rw[eS (by simp),dv (by simp)]
  have f:((l++10::a.flatMap fun l=>l++[10]).take (l++10::a.flatMap fun l=>l++[10]).length).drop (l.length+1)=a.flatMap fun l=>l++[10]:=by
   rw[f6,show l++10::(a.flatMap fun l=>l++[10])=(l++[10])++a.flatMap fun l=>l++[10] by simp];rw[List.drop_append_of_le_length (by simp),List.drop_of_length_le (by simp)]; rfl
  rw[g,f,Oi n a (fun x d=>h x (by simp[d])) (by simp at hn ⊢; omega)]
end Go.Proofs.ZzM
end

noncomputable section
namespace Go.Proofs.ZzM
open Go Go.Am
section
variable {ρ:Type}
def Uw {α σ:Type} (l:y5 α) (g:σ->α->σ) (I:Nat->σ->Prop) {K:σ->x9 ρ} {f:Int×σ->(Int×σ->x9 ρ)->x9 ρ} {s0:σ} (h0:I 0 s0)
 (h:∀(i:Nat) (a:α) (s:σ),i<l.length->l[i]?=some a->I i s->I (i+1) (g s a)/\∀kn,f ((i:Int),s) kn=kn ((i:Int)+1,g s a)) (hn:∀s kn,I l.length s->f ((l.length:Int),s) kn=K s):Î f (0,s0)=K (l.foldl g s0):=by
 refine gL (fun x=>∃(i:Nat) (s:σ),x=((i:Int),s)/\i<=l.length/\I i s/\(l.drop i).foldl g s=l.foldl g s0) (fun x=>l.length-x.1.toNat) ?_ ⟨0,s0,rfl,cG _,h0,rfl⟩;rintro x ⟨i,s,rfl,hi,hI,hs⟩
 by_cases hl:i<l.length
 ·obtain⟨d,h2⟩:=h i l[i] s hl (bY hl) hI;refine .inr ⟨((i:Int)+1,g s l[i]),⟨i+1,_,rfl,hl,d,?_⟩,by simp; omega,h2⟩;rw[<-hs,dN hl,ej]
 ·obtain rfl:i=l.length:=by omega
  rw[fI,List.foldl_nil] at hs;rw[<-hs];exact .inl fun kn=>hn s kn hI
def Ux {α σ:Type} (l:y5 α) (g:σ->α->σ) (I:Nat->σ->Prop) {K:σ->x9 ρ} {f:σ×Int->(σ×Int->x9 ρ)->x9 ρ} {s0:σ} (h0:I 0 s0)
 (h:∀(i:Nat) (a:α) (s:σ),i<l.length->l[i]?=some a->I i s->I (i+1) (g s a)/\∀kn,f (s,(i:Int)) kn=kn (g s a,(i:Int)+1)) (hn:∀s kn,I l.length s->f (s,(l.length:Int)) kn=K s):Î f (s0,0)=K (l.foldl g s0):=by
 refine gL (fun x=>∃(i:Nat) (s:σ),x=(s,(i:Int))/\i<=l.length/\I i s/\(l.drop i).foldl g s=l.foldl g s0) (fun x=>l.length-x.2.toNat) ?_ ⟨0,s0,rfl,cG _,h0,rfl⟩;rintro x ⟨i,s,rfl,hi,hI,hs⟩
 by_cases hl:i<l.length
 ·obtain⟨d,h2⟩:=h i l[i] s hl (bY hl) hI;refine .inr ⟨(g s l[i],(i:Int)+1),⟨i+1,_,rfl,hl,d,?_⟩,by simp; omega,h2⟩;rw[<-hs,dN hl,ej]
 ·obtain rfl:i=l.length:=by omega
  rw[fI,List.foldl_nil] at hs;rw[<-hs];exact .inl fun kn=>hn s kn hI
def qu {α β:Type} (l:y5 α) (g:α->β) {K:y5 β->x9 ρ} {f:Int×y5 β->(Int×y5 β->x9 ρ)->x9 ρ} {out:y5 β} (e:out.length+l.length<=1000000)
 (h:∀(i:Nat) (a:α) (s:y5 β),i<l.length->l[i]?=some a->s.length<1000000->∀kn,f ((i:Int),s) kn=kn ((i:Int)+1,s++[g a])) (hn:∀s kn,f ((l.length:Int),s) kn=K s):Î f (0,out)=K (out++l.map g):=by
 have:=Uw l (fun s a=>s++[g a]) (fun i s=>s.length=out.length+i) (K:=K) (f:=f) (s0:=out) rfl (fun i a s hi ha hs=>⟨by simp; omega,h i a s hi ha (by omega)⟩) (fun s kn _=>hn s kn);rw[this];congr 1;clear this hn h e
 induction l generalizing out with
 |nil=>simp
 |cons a l d=>rw[ej,d]; simp
end
abbrev ke (ns:y5 Int):y5 BL:=ns.map Lib.itoa
abbrev rP (w:BL) (ws:y5 BL):BL:=w++spL 32 ws
def ZW (c:UInt8) (w:BL) (ws:y5 BL):spL c (w::ws)=c::w++spL c ws:=by simp[spL]
def aaA {ns:y5 Int} (hn:∀n∈ns,I64 n):(spL 32 (ke ns)).length<=21*ns.length:=by
 induction ns with
 |nil=>simp[spL]
 |cons n ns a =>
  have f:=vq (hn n (by simp));have h2:=a fun x d=>hn x (by simp[d]);have e:spL 32 (ke (n::ns))=32::Lib.itoa n++spL 32 (ke ns):=ZW _ _ _;rw[e];simp only[b7,cj]; omega
def UG (ns:y5 Int):∀w:BL,ns.foldl (fun s n=>ofL (toL s++32::Lib.itoa n)) (ofL w)=ofL (rP w (ke ns)):=by
 induction ns with
 |nil=>intro w; simp[spL]
 |cons n ns a =>
  intro w;rw[ej,a];simp[spL]
def rO {w:BL} {ns:y5 Int} (d:w.length<=1000) (hl:ns.length<=1000) (hn:∀n∈ns,I64 n):jV (ofL w) ns=some (ofL (rP w (ke ns))):=by
 unfold jV Sv;rw[Ux ns (fun s n=>ofL (toL s++32::Lib.itoa n)) (fun i s=>s.size<=1000+21*i) (K:=some) (by rw[ô]; exact d) (fun i n s hi ha hs=>?_) (fun s kn _=>?_),UG]
 ·have a:=hn n (List.mem_of_getElem? ha);have f:=vq a;refine⟨by rw[ô]; rw[Kq] at hs; simp at hs ⊢; omega,fun kn=>?_⟩;unfold rE;rw[Ó hi,Ç ha,Zs a,À,show ByteArray.mk #[32]=ofL [32] from rfl,Ò (by simp only[ô,List.length_append,List.length_cons,List.length_nil]; omega),Am.iff_true,mW,Ò (by simp only[ô,List.length_append,List.length_cons,List.length_nil]; omega),Am.iff_true,ð (by omega) (by omega)]
  have e:s++ofL ([32]++Lib.itoa n)=ofL (toL s++32::Lib.itoa n):=by rw[<-EU s,mW]; rfl
  rw[e]
 ·unfold rE;rw[á]
abbrev SW (g:é):y5 Int:=[g.1,g.2.1,g.2.2.1,g.2.2.2.1.1,g.2.2.2.1.2,g.2.2.2.2.1.1,g.2.2.2.2.1.2,g.2.2.2.2.2]
abbrev ada (l:vW):y5 Int:=[l.1,l.2.1.1,l.2.1.2,l.2.2]
abbrev cmpN (c:Cmp):y5 Int:=[c.1,c.2.1,c.2.2.2.2.1,c.2.2.2.2.2.1,c.2.2.2.2.2.2.1,c.2.2.2.2.2.2.2]
def UK (s:Int×Int):BL×y5 BL:=([102,105,108,109],ke [s.1,s.2])
def Gq (g:é):BL×y5 BL:=([103,97,117,103,101],ke (SW g))
def acq (u:Int×Int):BL×y5 BL:=([117,115,101],ke [u.1,u.2])
def Qy (l:vW):BL×y5 BL:=([108,111,97,110],ke (ada l))
def Yx (c:Cmp):BL×y5 BL:=([99,111,109,112,97,114,101],ke (cmpN c)++([97]::ke c.2.2.1++[98]::ke c.2.2.2.1))
def Qx (u:Int×Int):BL×y5 BL:=([108,111,111,107],ke [u.1,u.2])
def iv (b:Ý):y5 (BL×y5 BL):=UK b.1::(b.2.1.map Gq++(b.2.2.1.map acq++(b.2.2.2.1.map Qy++(b.2.2.2.2.1.map Yx++b.2.2.2.2.2.map Qx))))
abbrev jB (p:BL×y5 BL):BL:=rP p.1 p.2
def Ľ (b:Ý):BL:=(iv b).flatMap fun p=>jB p++[10]
structure pD (I64:Int->Prop) (b:Ý):Prop where
 film:I64 b.1.1/\I64 b.1.2
 gauges:∀g∈b.2.1,∀n∈SW g,I64 n
 uses:∀u∈b.2.2.1,I64 u.1/\I64 u.2
 loans:∀l∈b.2.2.2.1,∀n∈ada l,I64 n
 cmps:∀c∈b.2.2.2.2.1,(∀n∈cmpN c,I64 n)/\(∀n∈c.2.2.1,I64 n)/\(∀n∈c.2.2.2.1,I64 n)/\c.2.2.1.length<=6/\c.2.2.2.1.length<=6
 looks:∀u∈b.2.2.2.2.2,I64 u.1/\I64 u.2
 nG:b.2.1.length<=12
 nU:b.2.2.1.length<=40
 nL:b.2.2.2.1.length<=12
 nC:b.2.2.2.2.1.length<=40
 nK:b.2.2.2.2.2.length<=10
abbrev Zm:Ý->Prop:=pD I64
def pD.mono {P Q:Int->Prop} (a:∀n,P n->Q n) {b:Ý} (h:pD P b):pD Q b :=
 ⟨⟨a _ h.film.1,a _ h.film.2⟩,fun g f n hn=>a _ (h.gauges g f n hn),fun u d=>⟨a _ (h.uses u d).1,a _ (h.uses u d).2⟩,fun l hl n hn=>a _ (h.loans l hl n hn),fun c e=>⟨fun n hn=>a _ ((h.cmps c e).1 n hn),fun n hn=>a _ ((h.cmps c e).2.1 n hn),fun n hn=>a _ ((h.cmps c e).2.2.1 n hn),(h.cmps c e).2.2.2⟩,fun u d=>⟨a _ (h.looks u d).1,a _ (h.looks u d).2⟩,h.nG,h.nU,h.nL,h.nC,h.nK⟩
def Bm {u:Int×Int} (h:I64 u.1/\I64 u.2):∀n∈[u.1,u.2],I64 n:=by
 intro n hn;simp only[b9,dM,or_false] at hn;rcases hn with rfl|rfl
 ·exact h.1
 ·exact h.2
def Tn {c:Cmp}:jB (Yx c)=(rP [99,111,109,112,97,114,101] (ke (cmpN c))++rP [32,97] (ke c.2.2.1))++rP [32,98] (ke c.2.2.2.1):=by
 simp[jB,Yx,spL]
def UB (ps:y5 BL) (p:BL):Lib.join (p::ps) [10]++[10]=(p::ps).flatMap fun l=>l++[10]:=by
 rw[Lib.join_cons]
 have:∀(ps:y5 BL),Lib.joinTail [10] ps++[10]=[10]++ps.flatMap fun l=>l++[10]:=by
  intro ps
  induction ps with
  |nil=>simp[Lib.joinTail]
  |cons q ps a =>
   have e:Lib.joinTail [10] (q::ps)=10::q++Lib.joinTail [10] ps:=by simp[Lib.joinTail]
   rw[e,cq,a]; simp
 rw[cq,this]; simp
def œ {w:BL} {ns:y5 Int} (hn:∀n∈ns,I64 n):(rP w (ke ns)).length<=w.length+21*ns.length:=by
 have:=aaA hn;rw[rP,b7]; omega
def pD.len {b:Ý} (h:Zm b):∀p∈iv b,(jB p).length<=500:=by
 intro p hp;unfold iv at hp;simp only[List.mem_cons,List.mem_append,List.mem_map] at hp;rcases hp with rfl|⟨g,d,rfl⟩|⟨u,a,rfl⟩|⟨l,hl,rfl⟩|⟨c,e,rfl⟩|⟨u,a,rfl⟩
 ·have:=œ (w:=[102,105,108,109]) (Bm h.film); simp[UK] at this ⊢; omega
 ·have:=œ (w:=[103,97,117,103,101]) (h.gauges g d); simp[Gq] at this ⊢; omega
 ·have:=œ (w:=[117,115,101]) (Bm (h.uses u a)); simp[acq] at this ⊢; omega
 ·have:=œ (w:=[108,111,97,110]) (h.loans l hl); simp[Qy] at this ⊢; omega
 ·obtain⟨j,h2,f,q,o⟩:=h.cmps c e;have m:=œ (w:=[99,111,109,112,97,114,101]) j;have k:=œ (w:=[32,97]) h2;have a3:=œ (w:=[32,98]) f;rw[Tn,b7,b7];simp only[cj,cz] at m k a3; omega
 ·have:=œ (w:=[108,111,111,107]) (Bm (h.looks u a)); simp[Qx] at this ⊢; omega
def pD.count {P:Int->Prop} {b:Ý} (h:pD P b):(iv b).length<=115:=by
 have f:=h.nG; have h2:=h.nU; have e:=h.nL; have d:=h.nC; have a:=h.nK;unfold iv;simp; omega
def Z8 {b:Ý} (h:Zm b) (t:Ā b=some 0):jW b=some (ofL (Ľ b),0):=by
 have v:=h.nG; have h2:=h.nU; have I:=h.nL; have F:=h.nC; have E:=h.nK;unfold jW Au;rw[t,À,Ö (by simp[ine]),show ByteArray.mk #[102,105,108,109]=ofL [102,105,108,109] from rfl,rO (by simp) (by simp) (Bm h.film),À]
 rw[qu b.2.1 (fun g=>ofL (jB (Gq g))) (by simp; omega) (fun i g s hi a hs kn=>by
  unfold oQ;dsimp only
  rw[Ó hi,Ç a,show ByteArray.mk #[103,97,117,103,101]=ofL [103,97,117,103,101] from rfl,rO (by simp) (by simp) (h.gauges g (List.mem_of_getElem? a)),À,Ò (by simp; omega),Am.iff_true,Í hi (by omega)]; rfl) (fun s kn=>by unfold oQ; rw[á])]
 dsimp only
 rw[qu b.2.2.1 (fun u=>ofL (jB (acq u))) (by simp; omega) (fun i g s hi a hs kn=>by
  unfold oP;dsimp only
  rw[Ó hi,Ç a,show ByteArray.mk #[117,115,101]=ofL [117,115,101] from rfl,rO (by simp) (by simp) (Bm (h.uses g (List.mem_of_getElem? a))),À,Ò (by simp; omega),Am.iff_true,Í hi (by omega)]; rfl) (fun s kn=>by unfold oP; rw[á])]
 dsimp only
 rw[qu b.2.2.2.1 (fun u=>ofL (jB (Qy u))) (by simp; omega) (fun i g s hi a hs kn=>by
  unfold oO;dsimp only
  rw[Ó hi,Ç a,show ByteArray.mk #[108,111,97,110]=ofL [108,111,97,110] from rfl,rO (by simp) (by simp) (h.loans g (List.mem_of_getElem? a)),À,Ò (by simp; omega),Am.iff_true,Í hi (by omega)]; rfl) (fun s kn=>by unfold oO; rw[á])]
 dsimp only
 rw[qu b.2.2.2.2.1 (fun u=>ofL (jB (Yx u))) (by simp; omega) (fun i c s hi a hs kn=>by
  obtain⟨k,j,f,D,C⟩:=h.cmps c (List.mem_of_getElem? a);have A:=œ (w:=[99,111,109,112,97,114,101]) k;have z:=œ (w:=[32,97]) j;have a3:=œ (w:=[32,98]) f;simp only[List.length_cons,List.length_nil] at A z a3;unfold oN;dsimp only
  rw[Ó hi,Ç a,show ByteArray.mk #[99,111,109,112,97,114,101]=ofL [99,111,109,112,97,114,101] from rfl,rO (by simp) (by simp) k,À,show ByteArray.mk #[32,97]=ofL [32,97] from rfl,rO (by simp) (by omega) j,À,ô,ô,Ò (by omega),Am.iff_true,
   show ByteArray.mk #[32,98]=ofL [32,98] from rfl,rO (by simp) (by omega) f,À,mW,ô,ô,Ò (by rw[List.length_append]; omega),Am.iff_true,mW,Ò (by simp; omega),Am.iff_true,Í hi (by omega),Tn]) (fun s kn=>by unfold oN; rw[á])]
 dsimp only
 rw[qu b.2.2.2.2.2 (fun u=>ofL (jB (Qx u))) (by simp; omega) (fun i g s hi a hs kn=>by
  unfold oM;dsimp only
  rw[Ó hi,Ç a,show ByteArray.mk #[108,111,111,107]=ofL [108,111,111,107] from rfl,rO (by simp) (by simp) (Bm (h.looks g (List.mem_of_getElem? a))),À,Ò (by simp; omega),Am.iff_true,Í hi (by omega)]; rfl) (fun s kn=>by unfold oM; rw[á])]
 dsimp only
 have e:[ofL (rP [102,105,108,109] (ke [b.1.1,b.1.2]))]++b.2.1.map (fun g=>ofL (jB (Gq g)))++b.2.2.1.map (fun u=>ofL (jB (acq u)))++b.2.2.2.1.map (fun u=>ofL (jB (Qy u)))++b.2.2.2.2.1.map (fun u=>ofL (jB (Yx u)))++b.2.2.2.2.2.map (fun u=>ofL (jB (Qx u)))=((iv b).map jB).map ofL:=by
  unfold iv;simp only[List.map_cons,List.map_append,List.map_map,List.append_assoc];rfl
 have o:Lib.join ((iv b).map jB) [10]++[10]=Ľ b:=by
  have:=UB ((iv b).tail.map jB) (jB (UK b.1));rw[show jB (UK b.1)::(iv b).tail.map jB=(iv b).map jB from rfl] at this;rw[this];unfold Ľ;rw[List.flatMap_map]
 have m:(Ľ b).length<=115*501:=by
  unfold Ľ;refine Nat.le_trans ?_ (Nat.mul_le_mul_right 501 h.count);have hp:=h.len;generalize iv b=L at hp
  induction L with
  |nil=>simp
  |cons p L q =>
   have v:=hp p (by simp);have h2:=q fun x r=>hp x (by simp[r]);rw[cH,b7,b7,cj];simp only[cj,cz] at *;omega
 have d:=congrArg List.length o;rw[b7] at d;simp only[cj,cz] at d;rw[e,show ByteArray.mk #[10]=ofL [10] from rfl,adZ _ _ (by have:=h.count; simp; omega) (by omega),À,ô,ô,Ò (by simp only[cj,cz]; omega),Am.iff_true,mW,o]
def WZ {ws:y5 BL} {i:Nat} {a:ByteArray} (h:(ws.map ofL)[i]?=some a):∃w,ws[i]?=some w/\a=ofL w:=by
 rw[d9] at h
 cases d:ws[i]? with
 |none=>rw[d] at h; cases h
 |some w=>rw[d] at h; cases h; exact⟨w,rfl,rfl⟩
def uZ (ws:y5 BL) (hl:ws.length<=1000000) (f:∀w∈ws,w.length<=1000000):ņ (ws.map ofL)=some (ws.map jC):=by
 unfold ņ xL;rw[qu (ws.map ofL) (fun s=>jC (toL s)) (out:=[]) (K:=some) (by simpa using hl) (fun i a s hi ha hs kn=>?_) (fun s kn=>by unfold kZ; rw[á])]
 ·rw[dL,List.map_map]; rfl
 ·obtain⟨w,d,rfl⟩:=WZ ha;have e:=f w (List.mem_of_getElem? d);rw[List.length_map] at hi;unfold kZ;dsimp only;rw[Ó (by simpa using hi),Ç ha];unfold Vi;rw[show decide ((ofL w).size<=281474976710656)=true by rw[ô]; exact decide_eq_true (by omega)];simp only[À];unfold jC
  cases Lib.atoiAll w with
  |ok v=>simp only[ë]; rw[Ò (by simp; omega),Am.iff_true,ð (by omega) (by omega)]
  |range=>simp only[Ĭ]; rw[Ò (by simp; omega),Am.iff_true,ð (by omega) (by omega)]
  | _ => simp only [Ĭ]; rw [Ò (by simp; omega), Am.iff_true, ð (by omega) (by omega)]
def Ov {α ρ:Type} (a:α) (l:y5 α) (f:α->x9 ρ):ă (a::l) 0 f=f a:=rfl
def wa (ws:y5 BL):y5 Int×y5 Int :=
 match ws with
 |[]=>([],[])
 |w::_=>if w=[97] then match ws.findIdx? (fun v=>decide (v=[98])) with
  |some j=>(((ws.drop 1).take (j-1)).map jC,(ws.drop (j+1)).map jC)
  |none=>([],[]) else([],[])
def Z9 (ws:y5 BL) (hl:ws.length<=1000000) (z:∀w∈ws,w.length<=1000000):AW (ws.map ofL)=some (wa ws):=by
 unfold AW N4 wa
 cases ws with
 |nil=>rw[à (by simp[ieq,è])]
 |cons w r =>
 dsimp only;rw[Ö (by simp[ieq,è]; omega)];rw[show((w::r).map ofL)=ofL w::r.map ofL from rfl,Ov,show ByteArray.mk #[97]=ofL [97] from rfl,Ck]
 by_cases h:w=[97]
 case neg=>rw[if_neg h,à (by simp[h])]
 rw[if_pos h,Ö (by simp[h])];have o:=Δ (ρ:=y5 Int×y5 Int) (ofL w::r.map ofL) (fun s=>decide (toL s=[98])) (fun j=>some (((((w::r).drop 1).take (j.toNat-1)).map jC,((w::r).drop (j.toNat+1)).map jC))) (some ([],[])) (f:=fun u d=>lE (ofL w::r.map ofL) (ofL w::r.map ofL) (Û (ofL w::r.map ofL)) u (fun k=>d k) (fun z7=>some (z7.1,z7.2)) (fun _=>some ([],[]))) (fun i a hi ha kn=>?_) (fun kn=>?_)
 ·rw[o]
  have e:(ofL w::r.map ofL).findIdx? (fun s=>decide (toL s=[98]))=(w::r).findIdx? (fun v=>decide (v=[98])):=by
   rw[show ofL w::r.map ofL=(w::r).map ofL from rfl,List.findIdx?_map]; rfl
  rw[e]
  cases(w::r).findIdx? (fun v=>decide (v=[98]))<;>simp
 ·obtain⟨v,q,rfl⟩:=WZ (ws:=w::r) ha;unfold lE;dsimp only
  have p:(ofL w::r.map ofL).length=(w::r).length:=by simp
  rw[Ó hi,Ç ha,show ByteArray.mk #[98]=ofL [98] from rfl,Ck,ģ]
  by_cases hb:v=[98]
  ·have A:i≠0:=fun e=>by subst e; simp only[dW,Option.some.injEq] at q; rw[<-q,h] at hb; cases hb
   rw[p] at hi;have t:∀(m:y5 BL),m ⊆ w::r->∀x∈m,x.length<=1000000:=fun m hs x g=>z x (hs g)
   rw[if_pos (by simp[hb]),if_pos (by simp[hb]),show(ile (1:Int) (i:Int)&&ile (i:Int) (ē (ofL w::r.map ofL)))=true by simp[ile,ē] at hi ⊢; omega,Am.iff_true,show((i:Int)-1).toNat=i-1 by omega,
    show(ofL w::r.map ofL).drop 1=((w::r).drop 1).map ofL by simp,<-List.map_take,uZ _ (by simp at hl hi ⊢; omega) (t _ fun x g=>fJ (fK g)),À,ð (by omega) (by omega),show(ile (0:Int) ((i:Int)+1)&&ile ((i:Int)+1) (ē (ofL w::r.map ofL)))=true by simp[ile,ē] at hi ⊢; omega,Am.iff_true,show((i:Int)+1).toNat=i+1 by omega,
    show ofL w::r.map ofL=(w::r).map ofL from rfl,<-List.map_drop,uZ _ (by simp at hl hi ⊢; omega) (t _ fun x g=>fJ g),À,cp]
  ·rw[if_neg (by simp[hb]),if_neg (by simp[hb]),ð (by omega) (by omega)]
 ·unfold lE;rw[á]
def qI:Ý:=((0,0),[],[],[],[],[])
def readW (n:Nat->Int) (ps:y5 Int×y5 Int) (b:Ý) (w:BL):Ý :=
 if w=[102,105,108,109] then((n 0,n 1),b.2)
 else if w=[103,97,117,103,101] then(b.1,b.2.1++[(n 0,n 1,n 2,(n 3,n 4),(n 5,n 6),n 7)],b.2.2)
 else if w=[117,115,101] then(b.1,b.2.1,b.2.2.1++[(n 0,n 1)],b.2.2.2)
 else if w=[108,111,97,110] then(b.1,b.2.1,b.2.2.1,b.2.2.2.1++[(n 0,(n 1,n 2),n 3)],b.2.2.2.2)
 else if w=[99,111,109,112,97,114,101] then(b.1,b.2.1,b.2.2.1,b.2.2.2.1,b.2.2.2.2.1++[(n 0,n 1,ps.1,ps.2,n 2,n 3,n 4,n 5)],b.2.2.2.2.2)
 else if w=[108,111,111,107] then(b.1,b.2.1,b.2.2.1,b.2.2.2.1,b.2.2.2.2.1,b.2.2.2.2.2++[(n 0,n 1)])
 else b
def aan (w:BL):x9 Nat :=
 if w=[102,105,108,109] then some 2 else if w=[103,97,117,103,101] then some 8 else if w=[117,115,101] then some 2
 else if w=[108,111,97,110] then some 4 else if w=[99,111,109,112,97,114,101] then some 6 else if w=[108,111,111,107] then some 2 else none
def nC (r:y5 BL) (i:Nat):Int:=jC (r.getD i [])
def sT (b:Ý) (l:BL):x9 Ý :=
 match O1 32 (Lib.trimSuffix l [10]) with
 |[]=>none
 |w::r=>match aan w with
  |none=>none
  |some k=>if r.length<k then none else some (readW (nC r) (wa (r.drop 6)) b w)
section
variable {ρ:Type}
def T8 (w:BL) (r:y5 BL) {c:Int} {n:Nat} (g:c=n) (j:r.length<=100000) (d:∀v∈r,v.length<=100000) (A:x9 ρ) (K:y5 Int->x9 ρ) :
 (ä (ile (1:Int) (ē ((w::r).map ofL))) (ifb (ilt (Û (List.drop 1 ((w::r).map ofL))) c) A (ä ((ile (0:Int) c)&&(ile c (ē (List.drop 1 ((w::r).map ofL))))) (Ã (ņ (List.take (Int.toNat c) (List.drop 1 ((w::r).map ofL)))) fun a=>ä ((ile (0:Int) c)&&(ile c (ē (List.drop 1 ((w::r).map ofL))))) (K a)))))=if r.length<n then A else K ((r.take n).map jC):=by
 subst g;rw[show ile (1:Int) (ē ((w::r).map ofL))=true by simp[ile,ē]; omega,Am.iff_true,show List.drop 1 ((w::r).map ofL)=r.map ofL from rfl,ģ]
 by_cases h:r.length<n
 ·rw[if_pos (by simpa[ilt,è] using h),if_pos h]
 ·have e:(ile (0:Int) (n:Int)&&ile (n:Int) (ē (r.map ofL)))=true:=by simp[ile,ē]; omega
  rw[if_neg (by simpa[ilt,è] using h),if_neg h,e,Am.iff_true,cp,<-List.map_take,uZ _ (by simp; omega) (fun v f=>by have:=d v (fK f); omega),À,Am.iff_true]
def mG {r:y5 BL} {n:Nat} {c:Int} (i:Nat) (a:c=i) (hi:i<n) (hn:n<=r.length) (f:Int->x9 ρ):ă ((r.take n).map jC) c f=f (nC r i):=by
 subst a;refine Ç ?_ f;rw[d9,List.getElem?_take_of_lt hi,bY (by omega)];simp[nC,show i<r.length by omega]
end
abbrev StC:Type:=Int×Int×y5 é×y5 (Int×Int)×y5 vW×y5 Cmp×y5 (Int×Int)×Int×Int×Int×y5 é×y5 (Int×Int)×y5 vW×y5 Cmp×y5 (Int×Int)
abbrev EndC:Type:=Int×Int×y5 é×y5 (Int×Int)×y5 vW×y5 Cmp×y5 (Int×Int)×Int
def stC (b:Ý):StC:=(0,0,[],[],[],[],[],0,b.1.1,b.1.2,b.2.1,b.2.2.1,b.2.2.2.1,b.2.2.2.2.1,b.2.2.2.2.2)
def endC:EndC:=(0,0,[],[],[],[],[],7)
structure Lens (b:Ý) (n:Nat):Prop where
 g:b.2.1.length<=n
 u:b.2.2.1.length<=n
 l:b.2.2.2.1.length<=n
 c:b.2.2.2.2.1.length<=n
 k:b.2.2.2.2.2.length<=n
def Tl {l:BL} (hl:l.length<=100000):∃w r,O1 32 l=w::r/\r.length<=100000/\(∀v∈r,v.length<=100000):=by
 obtain⟨w,r,h⟩:=LQ 32 l [];have a:=Eh 32 l [];rw[h] at a;refine⟨w,r,h,by simp at a; omega,fun v d=>?_⟩;have:=A0 32 l [] v (by rw[h]; exact eE _ d);simp at this; omega
def st_ok {b:Ý} {l:BL} (hl:l.length<=100000) (hb:Lens b 1000000):Œ 2 8 2 4 6 2 (stC b) (ofL l)=some (match sT b l with|some F=>Sum.inl (stC F)|none=>Sum.inr endC):=by
 obtain⟨O,h2,M,K,J⟩:=hb;unfold Œ lN sT;rw[show ByteArray.mk #[10]=ofL [10] from rfl,Ra l [10] (by omega),À];have o:=Kh l [10];generalize Lib.trimSuffix l [10]=t at o;rw[show ByteArray.mk #[32]=ofL [32] from rfl,TH t 32 (by omega),À];obtain⟨w,r,q,I,p⟩:=Tl (l:=t) (by omega);rw[q];dsimp only;rw[show List.map ofL (w::r)=ofL w::r.map ofL from rfl,Ov];have E:=uV w [102,105,108,109];have D:=uV w [103,97,117,103,101];have C:=uV w [117,115,101];have A:=uV w [108,111,97,110];have z:=uV w [99,111,109,112,97,114,101];have u:=uV w [108,111,111,107]
 rw[show ByteArray.mk #[102,105,108,109]=ofL [102,105,108,109] from rfl,show ByteArray.mk #[103,97,117,103,101]=ofL [103,97,117,103,101] from rfl,show ByteArray.mk #[117,115,101]=ofL [117,115,101] from rfl,show ByteArray.mk #[108,111,97,110]=ofL [108,111,97,110] from rfl,show ByteArray.mk #[99,111,109,112,97,114,101]=ofL [99,111,109,112,97,114,101] from rfl,show ByteArray.mk #[108,111,111,107]=ofL [108,111,111,107] from rfl,
  E,D,C,A,z,u]
 have a:∀v∈r,v.length<=100000:=fun v m=>by have:=p v m; omega
 unfold aan readW
 by_cases j:w=[102,105,108,109]
 ·rw[à (decide_eq_true j),if_pos j,if_pos j];refine(T8 w r (c:=2) (n:=2) rfl (by omega) a _ _).trans ?_;dsimp only
  by_cases hk:r.length<2
  ·rw[if_pos hk,if_pos hk]; rfl
  ·rw[if_neg hk,if_neg hk,mG 0 (c:=0) rfl (by omega) (by omega),mG 1 (c:=1) rfl (by omega) (by omega)]; rfl
 rw[Ö (decide_eq_false j),if_neg j,if_neg j]
 by_cases g:w=[103,97,117,103,101]
 ·rw[à (decide_eq_true g),if_pos g,if_pos g];refine(T8 w r (c:=8) (n:=8) rfl (by omega) a _ _).trans ?_;dsimp only
  by_cases hk:r.length<8
  ·rw[if_pos hk,if_pos hk]; rfl
  ·rw[if_neg hk,if_neg hk,mG 0 (c:=0) rfl (by omega) (by omega),mG 1 (c:=1) rfl (by omega) (by omega),mG 2 (c:=2) rfl (by omega) (by omega),mG 3 (c:=3) rfl (by omega) (by omega),mG 4 (c:=4) rfl (by omega) (by omega),mG 5 (c:=5) rfl (by omega) (by omega),mG 6 (c:=6) rfl (by omega) (by omega),mG 7 (c:=7) rfl (by omega) (by omega),Ò (by show b.2.1.length+1<=_; omega),Am.iff_true]; rfl
 rw[Ö (decide_eq_false g),if_neg g,if_neg g]
 by_cases f:w=[117,115,101]
 ·rw[à (decide_eq_true f),if_pos f,if_pos f];refine(T8 w r (c:=2) (n:=2) rfl (by omega) a _ _).trans ?_;dsimp only
  by_cases hk:r.length<2
  ·rw[if_pos hk,if_pos hk]; rfl
  ·rw[if_neg hk,if_neg hk,mG 0 (c:=0) rfl (by omega) (by omega),mG 1 (c:=1) rfl (by omega) (by omega),Ò (by show b.2.2.1.length+1<=_; omega),Am.iff_true]; rfl
 rw[Ö (decide_eq_false f),if_neg f,if_neg f]
 by_cases e:w=[108,111,97,110]
 ·rw[à (decide_eq_true e),if_pos e,if_pos e];refine(T8 w r (c:=4) (n:=4) rfl (by omega) a _ _).trans ?_;dsimp only
  by_cases hk:r.length<4
  ·rw[if_pos hk,if_pos hk]; rfl
  ·rw[if_neg hk,if_neg hk,mG 0 (c:=0) rfl (by omega) (by omega),mG 1 (c:=1) rfl (by omega) (by omega),mG 2 (c:=2) rfl (by omega) (by omega),mG 3 (c:=3) rfl (by omega) (by omega),Ò (by show b.2.2.2.1.length+1<=_; omega),Am.iff_true]; rfl
 rw[Ö (decide_eq_false e),if_neg e,if_neg e]
 by_cases d:w=[99,111,109,112,97,114,101]
 ·rw[à (decide_eq_true d),if_pos d,if_pos d];refine(T8 w r (c:=6) (n:=6) rfl (by omega) a _ _).trans ?_;dsimp only
  by_cases hk:r.length<6
  ·rw[if_pos hk,if_pos hk]; rfl
  ·rw[if_neg hk,if_neg hk,mG 0 (c:=0) rfl (by omega) (by omega),mG 1 (c:=1) rfl (by omega) (by omega),mG 2 (c:=2) rfl (by omega) (by omega),mG 3 (c:=3) rfl (by omega) (by omega),mG 4 (c:=4) rfl (by omega) (by omega),mG 5 (c:=5) rfl (by omega) (by omega)];rw[show List.drop (Int.toNat 6) (List.drop 1 (ofL w::r.map ofL))=(r.drop 6).map ofL by rw[List.map_drop]; rfl,Z9 _ (by simp; omega) (fun v m=>by have:=p v (fJ m); omega),À,Ò (by show b.2.2.2.2.1.length+1<=_; omega),Am.iff_true]; rfl
 rw[Ö (decide_eq_false d),if_neg d,if_neg d]
 by_cases k:w=[108,111,111,107]
 ·rw[à (decide_eq_true k),if_pos k,if_pos k];refine(T8 w r (c:=2) (n:=2) rfl (by omega) a _ _).trans ?_;dsimp only
  by_cases hk:r.length<2
  ·rw[if_pos hk,if_pos hk]; rfl
  ·rw[if_neg hk,if_neg hk,mG 0 (c:=0) rfl (by omega) (by omega),mG 1 (c:=1) rfl (by omega) (by omega),Ò (by show b.2.2.2.2.2.length+1<=_; omega),Am.iff_true]; rfl
 rw[Ö (decide_eq_false k),if_neg k];rfl
def Wg {n:Nat->Int} {ps:y5 Int×y5 Int} {b:Ý} {w:BL} {k:Nat} (h:Lens b k):Lens (readW n ps b w) (k+1):=by
 obtain⟨f,h2,e,d,a⟩:=h;unfold readW
 (repeat' split)<;>constructor<;>(try simp only[b7,cj,cz])<;>omega
def Wh {b a:Ý} {l:BL} {k:Nat} (h:Lens b k) (e:sT b l=some a):Lens a (k+1):=by
 unfold sT at e
 (repeat' split at e)<;>first|(cases e; done)|(cases e; exact Wg h)
def V7 {ρ:Type} {kn:StC->x9 ρ} {e:EndC->x9 ρ}:∀(a:y5 BL) (b:Ý) (k:Nat),Lens b k->k+a.length<=1000000->(∀l∈a,l.length<=100000) ->
 Zy (Œ 2 8 2 4 6 2) (a.map ofL) (stC b) kn e=match a.foldlM sT b with|some d=>kn (stC d)|none=>e endC
 |[],b,k,_,_,_=>rfl
 |l::a,b,k,hb,hk,hl=>by
  simp only[cj] at hk;rw[dC,Zy,st_ok (hl l (by simp)) ⟨by have:=hb.g; omega,by have:=hb.u; omega,by have:=hb.l; omega,by have:=hb.c; omega,by have:=hb.k; omega⟩,À,f7]
  cases j:sT b l with
  |none=>rfl
  |some d=>exact V7 a d (k+1) (Wh hb j) (by omega) fun x f=>hl x (by simp[f])
def qx (t:BL):y5 BL:=(w8 (ofL t)).map toL
def abG {t:BL} (g:t.length<=60000):uF (ofL t)=match (qx t).foldlM sT qI with
 |none=>some (qI,7)
 |some b=>Ã (jW b) fun r=>if r.2≠0\/r.1≠ofL t then some (qI,7) else some (b,0):=by
 obtain⟨f,h2⟩:=BS (ofL t).size (ofL t);unfold uF F5;rw[Ò (by rw[ô]; omega),show(true&&true)=true from rfl,Am.iff_true]
 have hl:w8 (ofL t)=(qx t).map ofL:=by
  unfold qx; rw[List.map_map]; exact(List.map_id _).symm.trans (List.map_congr_left fun s _=>(EU s).symm)
 rw[hl];have hb:((0:Int),(0:Int),([]:y5 é),([]:y5 (Int×Int)),([]:y5 vW),([]:y5 Cmp),([]:y5 (Int×Int)),(0:Int),(0:Int),(0:Int),([]:y5 é),([]:y5 (Int×Int)),([]:y5 vW),([]:y5 Cmp),([]:y5 (Int×Int)))=stC qI:=rfl;refine(V7 (qx t) qI 0 ⟨Nat.le_refl _,Nat.le_refl _,Nat.le_refl _,Nat.le_refl _,Nat.le_refl _⟩ (by unfold qx w8; rw[ô] at f ⊢; simp; omega) (fun l hl=>?_)).trans ?_
 ·unfold qx w8 at hl;obtain⟨y,d,rfl⟩:=List.mem_map.1 hl;have:=h2 y d;rw[<-Kq];exact Nat.le_trans this (by rw[ô]; omega)
 ·cases(qx t).foldlM sT qI with
  |none=>rfl
  |some b =>
   dsimp only[stC]
   cases hp:jW b with
   |none=>rfl
   |some r =>
    obtain⟨s,e⟩:=r;rw[À,À];dsimp only;rw[ģ,ģ]
    by_cases a:e=0
    ·rw[if_neg (by simp[ine,a]),<-EU s,Ck]
     by_cases hs:toL s=t
     ·rw[if_neg (by simp[hs]),if_neg (by simp[a,hs])]
     ·rw[if_pos (by simp[hs]),if_pos (.inr fun h=>hs (WH h))]; rfl
    ·rw[if_pos (by simp[ine,a]),if_pos (.inl a)]; rfl
def j9 (n:Int):Prop:=n.natAbs<10 ^ 17
def j9.i64 {n:Int} (h:j9 n):I64 n:=by
 unfold j9 at h;exact⟨by omega,by omega⟩
def md {n lo hi:Int} (h:inP n lo hi=true) (a : -1125899906842624<=lo) (h2:hi<=1125899906842624):j9 n:=by
 simp only[inP,Bool.and_eq_true,decide_eq_true_eq] at h;unfold j9; omega
def pE {s:Int×Int} {lo hi:Int} (h:lZ s lo hi=true) (a : -1125899906842624<=lo) (h2:hi<=1125899906842624):j9 s.1/\j9 s.2:=by
 simp only[lZ,Bool.and_eq_true,decide_eq_true_eq] at h;unfold j9; exact⟨by omega,by omega⟩
def Ğ.idn {b:Ý} (h:Ğ b) {id:Int} {g:é} (d:gY b id=some g):j9 id:=by
 obtain⟨a,rfl⟩:=ţ d;have:=h.gauge g a;simp only[sN,bZ] at this;exact md this.1.1.1.1.2 (by omega) (by omega)
def M5 {l:y5 Int} (h:Db l=true):l.length<=6/\∀x∈l,j9 x:=by
 unfold Db at h
 split at h
 ·cases h
 ·rename_i hn;refine⟨of_decide_eq_true h,fun x d=>?_⟩;obtain⟨j,e,rfl⟩:=List.mem_iff_getElem.1 d;have:=kP.1 hn j _ (List.getElem?_eq_getElem e);unfold Ky at this
  split at this
  ·cases this
  ·rename_i a;exact md (by simpa using a) (by omega) (by omega)
def Ğ.prints {b:Ý} (h:Ğ b):pD j9 b:=by
 have r:∀{id j:Int},Rp (iz b) id j=0->j9 id/\j9 j:=fun d=>by
  obtain⟨⟨a,h2⟩,g,f,_⟩:=El h d;exact⟨h.idn f,by unfold j9; omega⟩
 refine⟨by have:=h.film; unfold j9; exact⟨by omega,by omega⟩,fun g f=>?_,fun u o=>r (h.uses u o),fun l hl=>?_,fun c A=>?_,fun u o=>r (h.looks u o),h.nG,h.nU,h.nL,h.nC,h.nK⟩
 ·have:=h.gauge g f;simp only[sN,bZ,decide_eq_true_eq] at this;obtain⟨⟨⟨⟨⟨⟨⟨a,h2⟩,e⟩,q⟩,m⟩,p⟩,k⟩,C⟩:=this;simp only[Ht,bZ,decide_eq_true_eq] at a;intro n hn;simp only[SW,b9,dM,or_false] at hn;rcases hn with rfl|rfl|rfl|rfl|rfl|rfl|rfl|rfl
  ·exact md q (by omega) (by omega)
  ·exact md (show inP g.2.1 0 20000=true from m) (by omega) (by omega)
  ·exact md p (by omega) (by omega)
  ·exact(pE k (by omega) (by omega)).1
  ·exact(pE k (by omega) (by omega)).2
  ·exact md h2 (by omega) (by omega)
  ·unfold j9; omega
  ·exact md C (by omega) (by omega)
 ·obtain⟨i,hi,rfl⟩:=List.mem_iff_getElem.1 hl;have d:=h.loans i _ (List.getElem?_eq_getElem hi);unfold DE at d
  split at d
  ·omega
  rename_i a
  split at d
  ·omega
  rename_i h2
  split at d
  ·rename_i e; simp[d] at e
  rename_i e;obtain⟨g,f,_⟩:=pQ h (show jc (iz b) b.2.2.2.1[i].1 b.2.2.2.1[i].2.1.1=0 by simpa using e)
  have a:lZ b.2.2.2.1[i].2.1 0 20000=true:=by simpa using a
  intro n hn;simp only[ada,b9,dM,or_false] at hn;rcases hn with rfl|rfl|rfl|rfl
  ·exact h.idn f
  ·exact(pE a (by omega) (by omega)).1
  ·exact(pE a (by omega) (by omega)).2
  ·exact md (lo:=0) (hi:=1048576) (by simpa using h2) (by omega) (by omega)
 ·have:=h.nums A;simp only[Nt,bZ] at this;obtain⟨a,h2,e,q,m,p,k⟩:=this;obtain⟨z,w⟩:=M5 p;obtain⟨v,t⟩:=M5 k;refine⟨fun n hn=>?_,w,t,z,v⟩;simp only[cmpN,b9,dM,or_false] at hn;rcases hn with rfl|rfl|rfl|rfl|rfl|rfl
  ·exact md a (by omega) (by omega)
  ·exact md (show inP c.2.1 0 20000=true from h2) (by omega) (by omega)
  ·exact md e (by omega) (by omega)
  ·exact md q (by omega) (by omega)
  ·exact(pE m (by omega) (by omega)).1
  ·exact(pE m (by omega) (by omega)).2
def Ž (c:UInt8) (a:c.toNat≠45/\¬(48<=c.toNat/\c.toNat<=57)) (ns:y5 Int):∀v∈ke ns,∀x∈v,x≠c:=by
 intro v f x d e;obtain⟨n,_,rfl⟩:=cR.1 f;have:=JN n x d;subst e;rcases this with h|h
 ·exact a.1 h
 ·exact a.2 h
def ade (n:Int) (c:UInt8) (a:c.toNat≠45/\¬(48<=c.toNat/\c.toNat<=57)):Lib.itoa n≠[c]:=fun e=>Ž c a [n] (Lib.itoa n) (by simp) c (by rw[e]; simp) rfl
def IH (c:UInt8) (j:c=10\/c=32) {b:Ý}:∀p∈iv b,(∀x∈p.1,x≠c)/\∀v∈p.2,∀x∈v,x≠c:=by
 have hn:c.toNat≠45/\¬(48<=c.toNat/\c.toNat<=57):=by rcases j with rfl|rfl<;>decide
 have a:∀w:BL,(w.all fun x=>x != 10&&x != 32)=true->∀x∈w,x≠c:=fun w m x k e=>by
  have:=cr.1 m x k
  rcases j with rfl|rfl<;>subst e<;>revert this<;>decide
 intro p hp;unfold iv at hp;simp only[List.mem_cons,List.mem_append,List.mem_map] at hp;rcases hp with rfl|⟨g,q,rfl⟩|⟨u,o,rfl⟩|⟨l,hl,rfl⟩|⟨d,hd,rfl⟩|⟨u,o,rfl⟩
 ·exact⟨a _ rfl,Ž c hn _⟩
 ·exact⟨a _ rfl,Ž c hn _⟩
 ·exact⟨a _ rfl,Ž c hn _⟩
 ·exact⟨a _ rfl,Ž c hn _⟩
 ·refine⟨a _ rfl,fun v f=>?_⟩;simp only[Yx,b8,b9] at f;rcases f with f|(rfl|f)|rfl|f
  ·exact Ž c hn _ v f
  ·exact a _ rfl
  ·exact Ž c hn _ v f
  ·exact a _ rfl
  ·exact Ž c hn _ v f
 ·exact⟨a _ rfl,Ž c hn _⟩
def aa5 {b:Ý} {p:BL×y5 BL} (hp:p∈iv b):O1 32 (jB p)=p.1::p.2:=by
 obtain⟨a,h2⟩:=IH 32 (.inr rfl) p hp;exact GY 32 p.2 p.1 a h2
def Oj {b:Ý} {p:BL×y5 BL} (hp:p∈iv b):∀x∈jB p,x≠10:=by
 obtain⟨e,h2⟩:=IH 10 (.inl rfl) p hp;intro x a;rcases b8.1 a with a|a
 ·exact e x a
 ·unfold spL at a;obtain⟨v,d,a⟩:=List.mem_flatMap.1 a;rcases List.mem_cons.1 a with rfl|a
  ·decide
  ·exact h2 v d x a
def nC_num {ns:y5 Int} (h:∀n∈ns,j9 n) (r:y5 BL) {i:Nat} (hi:i<ns.length):nC (ke ns++r) i=ns.getD i 0:=by
 unfold nC;rw[List.getD_eq_getElem?_getD,List.getElem?_append_left (by simpa using hi),List.getD_eq_getElem?_getD];simp only[List.getElem?_map,List.getElem?_eq_getElem hi,Option.map_some,Option.getD_some];exact nh (h _ (List.getElem_mem hi)).i64
def Si {ns:y5 Int} (h:∀n∈ns,j9 n):(ke ns).map jC=ns:=by
 rw[List.map_map];exact(dP fun n hn=>nh (h n hn).i64).trans (List.map_id _)
def Wp {A B:y5 Int} (f:∀n∈A,j9 n) (d:∀n∈B,j9 n):wa ([97]::ke A++[98]::ke B)=(A,B):=by
 unfold wa
 have a:([97]::ke A++[98]::ke B).findIdx? (fun v=>decide (v=[98]))=some (A.length+1):=by
  rw[cQ];refine⟨by simp,?_,fun j m=>?_⟩
  ·simp
  ·cases j with
   |zero=>simp
   |succ j =>
    have:j<(ke A).length:=by simp; omega
    have e:([97]::ke A++[98]::ke B)[j+1]'(by simp; omega)=Lib.itoa A[j]:=by
     simp only[dw,List.getElem_cons_succ];rw[List.getElem_append_left this,List.getElem_map]
    intro h;exact ade _ 98 (by decide) (e.symm.trans (of_decide_eq_true h))
 dsimp only[List.cons_append] at a ⊢;rw[if_pos rfl,a];dsimp only
 have k:((([97]::(ke A++[98]::ke B)).drop 1).take (A.length+1-1))=ke A:=by
  rw[List.drop_one,List.tail_cons,Nat.add_sub_cancel,eS (by simp),dv (by simp)]
 have g:(([97]::(ke A++[98]::ke B)).drop (A.length+1+1))=ke B:=by
  rw[List.drop_succ_cons,show A.length+1=(ke A++[[98]]).length by simp,show ke A++[98]::ke B=(ke A++[[98]])++ke B by simp,List.drop_left]
 rw[k,g,Si f,Si d]
structure adS (R:Ý->BL×y5 BL->x9 Ý) (b:Ý):Prop where
 film:∀x:Ý,R x (UK b.1)=some (b.1,x.2)
 gauge:∀(x:Ý),∀g∈b.2.1,R x (Gq g)=some (x.1,x.2.1++[g],x.2.2)
 use:∀(x:Ý),∀u∈b.2.2.1,R x (acq u)=some (x.1,x.2.1,x.2.2.1++[u],x.2.2.2)
 loan:∀(x:Ý),∀l∈b.2.2.2.1,R x (Qy l)=some (x.1,x.2.1,x.2.2.1,x.2.2.2.1++[l],x.2.2.2.2)
 cmp:∀(x:Ý),∀c∈b.2.2.2.2.1,R x (Yx c)=some (x.1,x.2.1,x.2.2.1,x.2.2.2.1,x.2.2.2.2.1++[c],x.2.2.2.2.2)
 look:∀(x:Ý),∀u∈b.2.2.2.2.2,R x (Qx u)=some (x.1,x.2.1,x.2.2.1,x.2.2.2.1,x.2.2.2.2.1,x.2.2.2.2.2++[u])
def m9 {β:Type} (R:Ý->BL×y5 BL->x9 Ý) (F:β->BL×y5 BL) (G:Ý->y5 β->Ý) (d:∀x a l,G (G x [a]) l=G x (a::l)) (h0:∀x,G x []=x):∀(l:y5 β),(∀x,∀a∈l,R x (F a)=some (G x [a]))->∀x,(l.map F).foldlM R x=some (G x l)
 |[],_,x=>by rw[h0]; rfl
 |a::l,h,x=>by
  rw[dC,f7,h x a (by simp)];show(l.map F).foldlM R (G x [a])=_;rw[m9 R F G d h0 l fun x a ha=>h x a (by simp[ha]),d]
def adS.all {R:Ý->BL×y5 BL->x9 Ý} {b:Ý} (h:adS R b):(iv b).foldlM R qI=some b:=by
 unfold iv;rw[List.foldlM_cons,h.film qI];show List.foldlM R (b.1,qI.2) _=_;rw[List.foldlM_append,m9 R Gq (fun x l=>(x.1,x.2.1++l,x.2.2)) (fun x a l=>by simp) (fun x=>by simp) _ h.gauge];show List.foldlM R (b.1,[]++b.2.1,qI.2.2) _=_;rw[List.foldlM_append,m9 R acq (fun x l=>(x.1,x.2.1,x.2.2.1++l,x.2.2.2)) (fun x a l=>by simp) (fun x=>by simp) _ h.use];show List.foldlM R (b.1,[]++b.2.1,[]++b.2.2.1,qI.2.2.2) _=_;rw[List.foldlM_append,m9 R Qy (fun x l=>(x.1,x.2.1,x.2.2.1,x.2.2.2.1++l,x.2.2.2.2)) (fun x a l=>by simp) (fun x=>by simp) _ h.loan];show List.foldlM R (b.1,[]++b.2.1,[]++b.2.2.1,[]++b.2.2.2.1,qI.2.2.2.2) _=_;rw[List.foldlM_append,m9 R Yx (fun x l=>(x.1,x.2.1,x.2.2.1,x.2.2.2.1,x.2.2.2.2.1++l,x.2.2.2.2.2)) (fun x a l=>by simp) (fun x=>by simp) _ h.cmp];show List.foldlM R (b.1,[]++b.2.1,[]++b.2.2.1,[]++b.2.2.2.1,[]++b.2.2.2.2.1,qI.2.2.2.2.2) _=_;rw[m9 R Qx (fun x l=>(x.1,x.2.1,x.2.2.1,x.2.2.2.1,x.2.2.2.2.1,x.2.2.2.2.2++l)) (fun x a l=>by simp) (fun x=>by simp) _ h.look];simp[qI]
def Z7 {R:Ý->BL×y5 BL->x9 Ý} {n:y5 BL->Nat->Int} {ps:y5 BL->y5 Int×y5 Int} {b:Ý} (h:pD j9 b)
 (hn:∀(ns:y5 Int) (r:y5 BL) (i:Nat),(∀m∈ns,j9 m)->i<ns.length->n (ke ns++r) i=ns.getD i 0)
 (hp:∀A B:y5 Int,(∀m∈A,j9 m)->(∀m∈B,j9 m)->ps ([97]::ke A++[98]::ke B)=(A,B))
 (hR:∀x,∀p∈iv b,R x p=some (readW (n p.2) (ps (p.2.drop 6)) x p.1)):adS R b:=by
 have a:∀(ns:y5 Int) (i:Nat),(∀m∈ns,j9 m)->i<ns.length->n (ke ns) i=ns.getD i 0:=fun ns i w h2=>by
  have:=hn ns [] i w h2
  rwa [cn] at this
 have f:∀u:Int×Int,j9 u.1/\j9 u.2->n (ke [u.1,u.2]) 0=u.1/\n (ke [u.1,u.2]) 1=u.2:=fun u e=>by
  have:∀m∈[u.1,u.2],j9 m:=fun m d=>by
   simp only[b9,dM,or_false] at d;rcases d with rfl|rfl
   ·exact e.1
   ·exact e.2
  exact⟨a _ 0 this (by simp),a _ 1 this (by simp)⟩
 refine⟨fun x=>?_,fun x g o=>?_,fun x u e=>?_,fun x l hl=>?_,fun x c q=>?_,fun x u e=>?_⟩
 ·rw[hR x _ (by unfold iv; exact List.mem_cons_self)];obtain⟨k,j⟩:=f b.1 h.film;unfold readW UK;dsimp only;rw[if_pos rfl,k,j]
 ·rw[hR x _ (by unfold iv; simp only[List.mem_cons,List.mem_append]; exact .inr (.inl (List.mem_map.2 ⟨g,o,rfl⟩)))];have d:=h.gauges g o;unfold readW Gq;dsimp only;rw[if_neg (by decide),if_pos rfl];rw[a _ 0 d (by simp),a _ 1 d (by simp),a _ 2 d (by simp),a _ 3 d (by simp),a _ 4 d (by simp),a _ 5 d (by simp),a _ 6 d (by simp),a _ 7 d (by simp)];rfl
 ·rw[hR x _ (by unfold iv; simp only[List.mem_cons,List.mem_append]; exact .inr (.inr (.inl (List.mem_map.2 ⟨u,e,rfl⟩))))];obtain⟨k,j⟩:=f u (h.uses u e);unfold readW acq;dsimp only;rw[if_neg (by decide),if_neg (by decide),if_pos rfl,k,j]
 ·rw[hR x _ (by unfold iv; simp only[List.mem_cons,List.mem_append]; exact .inr (.inr (.inr (.inl (List.mem_map.2 ⟨l,hl,rfl⟩)))))];have d:=h.loans l hl;unfold readW Qy;dsimp only;rw[if_neg (by decide),if_neg (by decide),if_neg (by decide),if_pos rfl];rw[a _ 0 d (by simp),a _ 1 d (by simp),a _ 2 d (by simp),a _ 3 d (by simp)];rfl
 ·rw[hR x _ (by unfold iv; simp only[List.mem_cons,List.mem_append]; exact .inr (.inr (.inr (.inr (.inl (List.mem_map.2 ⟨c,q,rfl⟩))))))];obtain⟨d,v,t,_⟩:=h.cmps c q;unfold readW Yx;dsimp only;rw[if_neg (by decide),if_neg (by decide),if_neg (by decide),if_neg (by decide),if_pos rfl];rw[hn _ _ 0 d (by simp),hn _ _ 1 d (by simp),hn _ _ 2 d (by simp),hn _ _ 3 d (by simp),hn _ _ 4 d (by simp),hn _ _ 5 d (by simp)];rw[show(ke (cmpN c)++([97]::ke c.2.2.1++[98]::ke c.2.2.2.1)).drop 6=[97]::ke c.2.2.1++[98]::ke c.2.2.2.1 from rfl,hp _ _ v t];rfl
 ·rw[hR x _ (by unfold iv; simp only[List.mem_cons,List.mem_append]; exact .inr (.inr (.inr (.inr (.inr (List.mem_map.2 ⟨u,e,rfl⟩))))))];obtain⟨k,j⟩:=f u (h.looks u e);unfold readW Qx;dsimp only;rw[if_neg (by decide),if_neg (by decide),if_neg (by decide),if_neg (by decide),if_neg (by decide),if_pos rfl,k,j]
def T7 {b:Ý} {p:BL×y5 BL} (hp:p∈iv b) (x:Ý):sT x (jB p++[10])=some (readW (nC p.2) (wa (p.2.drop 6)) x p.1):=by
 unfold sT;rw[PF,aa5 hp];dsimp only
 have hn:∃k,aan p.1=some k/\k<=p.2.length:=by
  unfold iv at hp;simp only[List.mem_cons,List.mem_append,List.mem_map] at hp;rcases hp with rfl|⟨g,e,rfl⟩|⟨u,a,rfl⟩|⟨l,hl,rfl⟩|⟨c,f,rfl⟩|⟨u,a,rfl⟩
  ·exact⟨2,rfl,bX _⟩
  ·exact⟨8,rfl,bX _⟩
  ·exact⟨2,rfl,bX _⟩
  ·exact⟨4,rfl,bX _⟩
  ·exact⟨6,rfl,by simp[Yx]⟩
  ·exact⟨2,rfl,bX _⟩
 obtain⟨k,d,h2⟩:=hn;rw[d];dsimp only;rw[if_neg (by omega)]
def Rv (b:Ý):Ľ b=((iv b).map jB).flatMap fun l=>l++[10]:=by unfold Ľ; rw[List.flatMap_map]
def B6 {b:Ý} (h:pD j9 b):(qx (Ľ b)).foldlM sT qI=some b:=by
 have hl:qx (Ľ b)=(iv b).map fun p=>jB p++[10]:=by
  unfold qx w8;rw[Rv,Oi _ _ (fun l hl=>by obtain⟨p,hp,rfl⟩:=List.mem_map.1 hl; exact Oj hp) (by rw[ô]; exact Nat.le_refl _)];rw[List.map_map,List.map_map]; rfl
 rw[hl,List.foldlM_map];exact(Z7 (R:=fun x p=>sT x (jB p++[10])) (n:=nC) (ps:=wa) h (fun ns r i e h2=>nC_num e r h2) (fun A B d a=>Wp d a) fun x p hp=>T7 hp x).all
end Go.Proofs.ZzM
end

noncomputable section
namespace Go.Proofs.ZzM
open Go Go.Am
structure Vo (b:Ý):Prop where
 piles:abE b
 num:∀g∈b.2.1,I64 g.2.2.2.2.1.1
def In.fine {b:Ý} (h:In b):Vo b:=⟨h.size.w,h.num⟩
def Vo.readW {n:Nat->Int} {ps:y5 Int×y5 Int} {b:Ý} {w:BL} (h:Vo b) (hn:I64 (n 5)) (hp:ps.1.length<=100000/\ps.2.length<=100000):Vo (readW n ps b w):=by
 obtain⟨a,h2⟩:=h;unfold ZzM.readW
 split
 ·exact⟨a,h2⟩
 split
 ·refine⟨a,fun g d=>?_⟩;rcases b8.1 d with d|d
  ·exact h2 g d
  ·rw[ce.1 d]; exact hn
 split
 ·exact⟨a,h2⟩
 split
 ·exact⟨a,h2⟩
 split
 ·refine⟨fun c e=>?_,h2⟩;rcases b8.1 e with e|e
  ·exact a c e
  ·rw[ce.1 e]; exact hp
 split
 ·exact⟨a,h2⟩
 ·exact⟨a,h2⟩
def Ua (ws:y5 BL):(wa ws).1.length<=ws.length/\(wa ws).2.length<=ws.length:=by
 unfold wa
 cases ws with
 |nil=>simp
 |cons w r =>
  dsimp only
  split
  ·cases(w::r).findIdx? (fun v=>decide (v=[98]))<;>simp<;>omega
  ·simp
def fine0:Vo qI:=⟨fun _ d=>(by cases d),fun _ a=>(by cases a)⟩
def fineC {b a:Ý} {l:BL} (h:Vo b) (hl:l.length<=100000) (e:sT b l=some a):Vo a:=by
 unfold sT at e;have f:=Kh l [10];obtain⟨w,r,d,g,_⟩:=Tl (l:=Lib.trimSuffix l [10]) (by omega);rw[d] at e;dsimp only at e
 cases hk:aan w with
 |none=>rw[hk] at e; cases e
 |some k =>
  rw[hk] at e;dsimp only at e
  split at e
  ·cases e
  ·cases e;have:=Ua (r.drop 6);rw[eV] at this;exact h.readW (uL _) ⟨by omega,by omega⟩
def OG:∀(d:y5 BL) (b a:Ý),Vo b->(∀l∈d,l.length<=100000)->d.foldlM sT b=some a->Vo a
 |[],b,a,h,_,e=>by cases e; exact h
 |l::d,b,a,h,hl,e=>by
  rw[f7] at e
  cases f:sT b l with
  |none=>rw[f] at e; cases e
  |some j=>rw[f] at e; exact OG d j a (fineC h (hl l (by simp)) f) (fun x g=>hl x (by simp[g])) e
def Mg {b:Ý} (h:Vo b):jW b=some (if ö b≠0 then(ofL [],ö b) else(ofL (Ľ b),0)):=by
 have a:=Pu h.piles h.num
 by_cases h0:ö b=0
 ·rw[if_neg (by simp[h0])];exact Z8 (((ú b).1 h0).prints.mono fun n hn=>hn.i64) (by rw[a,h0])
 ·rw[if_pos h0];unfold jW Au;rw[a,À,à (by simpa[ine] using h0)]
def VN {b a:Ý} (h:Ğ b) (h':Ğ a) (e:Ľ b=Ľ a):b=a:=by
 have d:=B6 h.prints;rw[e,B6 h'.prints] at d;exact(Option.some.inj d).symm
open Classical in
def MW (t:BL):x9 Ý:=if h:∃b,Ğ b/\Ľ b=t then some h.choose else none
def RH {b:Ý} (h:Ğ b):MW (Ľ b)=some b:=by
 have a:∃d,Ğ d/\Ľ d=Ľ b:=⟨b,h,rfl⟩;unfold MW;rw[dif_pos a];exact congrArg some (VN a.choose_spec.1 h a.choose_spec.2)
def IZ {t:BL} {b:Ý} (h:MW t=some b):Ğ b/\Ľ b=t:=by
 unfold MW at h
 split at h
 ·rename_i a; cases h; exact a.choose_spec
 ·cases h
def adU {t:BL} (k:t.length<=60000):uF (ofL t)=some (match MW t with|some b=>(b,0)|none=>(qI,7)):=by
 have a:∀b,(qx t).foldlM sT qI=some b->Vo b:=fun b hb=>OG _ _ _ fine0 (fun l hl=>by
  unfold qx w8 at hl;obtain⟨y,j,rfl⟩:=List.mem_map.1 hl;have:=(BS (ofL t).size (ofL t)).2 y j;rw[<-Kq]
  exact cg this (by rw[ô]; omega)) hb
 rw[abG k]
 cases f:MW t with
 |some b =>
  obtain⟨g,rfl⟩:=IZ f;have hb:=B6 g.prints;rw[hb];dsimp only;rw[Mg (a b hb),(ú b).2 g,À];simp
 |none =>
  cases m:(qx t).foldlM sT qI with
  |none=>rfl
  |some b =>
   dsimp only;rw[Mg (a b m),À]
   by_cases h0:ö b=0
   ·have d:ofL (Ľ b)≠ofL t:=fun e=>by
     have:=RH ((ú b).1 h0);rw[WH e,f] at this;cases this
    rw[show(if ö b≠0 then(ofL [],ö b) else(ofL (Ľ b),0))=(ofL (Ľ b),0) from if_neg (by simp[h0])];exact if_pos (.inr d)
   ·rw[show(if ö b≠0 then(ofL [],ö b) else(ofL (Ľ b),0))=(ofL [],ö b) from if_pos h0];exact if_pos (.inl h0)
end Go.Proofs.ZzM
end

noncomputable section
namespace Go.Proofs.ZzM
open Go Go.Am
variable {ρ:Type}
abbrev od:Type:=Ý×(Int×Int)×Bool×Int×y5 Int
def YG:od:=(qI,(0,0),false,0,[])
def Bq (u:Bool):BL:=bif u then[117,112,112,101,114] else[108,111,119,101,114]
def O7 (c:od):y5 BL:=ke [c.2.1.1,c.2.1.2]++[Bq c.2.2.1,Lib.itoa c.2.2.2.1]
def s7 (c:od):BL:=rP [99,101,114,116] (O7 c)
def U6 (c:od):BL:=rP [99,101,114,116] (ke [c.2.1.1,c.2.1.2])
def qF (c:od):BL:=rP [99,104,97,105,110] (ke c.2.2.2.2)
def jD (c:od):BL:=Ľ c.1++((s7 c++[10])++(qF c++[10]))
structure Vn (c:od):Prop where
 book:Vo c.1
 g:I64 c.2.1.1
 d:I64 c.2.1.2
 v:I64 c.2.2.2.1
 l:∀n∈c.2.2.2.2,I64 n
def Rz {w:BL} {ns:y5 Int} (a:w.length<=1000) (hl:ns.length<=1000) (hn:∀n∈ns,I64 n):oX (ofL w) ns=some (ofL (rP w (ke ns))):=rO a hl hn
def J7 {a b:BL} (h:a.length+b.length<=4294967296) (K:x9 ρ):ä (Ú (ByteArray.size (ofL a)+ByteArray.size (ofL b))) K=K:=by
 rw[Ò (by rw[ô,ô]; exact h),Am.iff_true]
def En {b:Ý} (h:Zm b):(Ľ b).length<=60000:=by
 unfold Ľ;have f:=h.len;have h2:=h.count
 have a:∀l:y5 (BL×y5 BL),(∀p∈l,(jB p).length<=500)->(l.flatMap fun p=>jB p++[10]).length<=501*l.length:=by
  intro l
  induction l with
  |nil=>intro _; simp
  |cons p l d =>
   intro hp;have:=d fun q e=>hp q (.tail _ e);have g:=hp p (.head _);rw[cH,b7,b7,cj];simp only[cj,cz] at *;omega
 have:=a _ f;omega
def ac6:ByteArray.mk #[99,101,114,116]=ofL [99,101,114,116]:=rfl
def aat:ByteArray.mk #[99,104,97,105,110]=ofL [99,104,97,105,110]:=rfl
def mk_10:ByteArray.mk #[10]=ofL [10]:=rfl
def mk_32:ByteArray.mk #[32]=ofL [32]:=rfl
def mk_up:ByteArray.mk #[32,117,112,112,101,114,32]=ofL (32::Bq true++[32]):=rfl
def mk_lo:ByteArray.mk #[32,108,111,119,101,114,32]=ofL (32::Bq false++[32]):=rfl
def Tr (c:od):s7 c=U6 c++(32::Bq c.2.2.1++[32])++Lib.itoa c.2.2.2.1:=by
 simp[s7,U6,O7,rP,spL]
def ML (u:Bool):(Bq u).length=5:=by cases u<;>rfl
def Pm {c:od} (h:Vn c):uB c=some (if ö c.1≠0 then(ofL [],ö c.1) else if 80<c.2.2.2.2.length then(ofL [],2) else(ofL (jD c),0)):=by
 unfold uB Fs;rw[Mg h.book,À]
 by_cases h0:ö c.1=0
 case neg=>rw[if_pos h0,if_pos h0,à (by simpa[ine] using h0)]
 rw[if_neg (by simp[h0]),if_neg (by simp[h0]),Ö (by simp[ine])]
 by_cases k:80<c.2.2.2.2.length
 ·rw[if_pos k,à (by rw[è]; simp[igt]; omega)]
 rw[if_neg k,Ö (by rw[è]; simp[igt]; omega)]
 have hl:c.2.2.2.2.length<=1000:=by omega
 have hb:=En (((ú c.1).1 h0).prints.mono fun n hn=>hn.i64);have o:oX (ofL [99,101,114,116]) [c.2.1.1,c.2.1.2]=some (ofL (U6 c)):=Rz (by simp) (by simp) (by simp[h.g,h.d]);have m:oX (ofL [99,104,97,105,110]) c.2.2.2.2=some (ofL (qF c)):=Rz (by simp) hl h.l
 have t:(U6 c).length<=100:=by
  show(rP [99,101,114,116] (ke [c.2.1.1,c.2.1.2])).length<=100;have:=œ (w:=[99,101,114,116]) (ns:=[c.2.1.1,c.2.1.2]) (by simp[h.g,h.d]); simp only[cj,cz] at this ⊢; omega
 have r:(qF c).length<=30000:=by
  have:=œ (w:=[99,104,97,105,110]) h.l; simp only[List.length_cons,List.length_nil] at this; unfold qF; omega
 have q:=vq h.v;have p:=ML c.2.2.1
 have fin:∀u,u=c.2.2.1->(Ã (some (ofL (U6 c))) fun a=>ä (Ú (ByteArray.size (ofL (Ľ c.1))+ByteArray.size a)) (ä (Ú (ByteArray.size (ofL (Ľ c.1)++a)+ByteArray.size (ofL (32::Bq u++[32])))) (Ã (some (ofL (Lib.itoa c.2.2.2.1))) fun e=>ä (Ú (ByteArray.size ((ofL (Ľ c.1)++a)++ofL (32::Bq u++[32]))+ByteArray.size e)) (ä (Ú (ByteArray.size (((ofL (Ľ c.1)++a)++ofL (32::Bq u++[32]))++e)+ByteArray.size (ofL [10]))) (Ã (some (ofL (qF c))) fun f=>ä (Ú (ByteArray.size ((((ofL (Ľ c.1)++a)++ofL (32::Bq u++[32]))++e)++(ofL [10]))+ByteArray.size f)) (ä (Ú (ByteArray.size (((((ofL (Ľ c.1)++a)++ofL (32::Bq u++[32]))++e)++(ofL [10]))++f)+ByteArray.size (ofL [10]))) (some (((((((ofL (Ľ c.1)++a)++ofL (32::Bq u++[32]))++e)++(ofL [10]))++f)++(ofL [10])),(0:Int)))))))))=some (ofL (jD c),(0:Int)):=by
  rintro u rfl;simp only[À,mW];rw[J7 (by omega),J7 (by simp only[List.length_append,List.length_cons,List.length_nil]; omega),J7 (by simp only[List.length_append,List.length_cons,List.length_nil]; omega),J7 (by simp only[List.length_append,List.length_cons,List.length_nil]; omega),J7 (by simp only[List.length_append,List.length_cons,List.length_nil]; omega),J7 (by simp only[List.length_append,List.length_cons,List.length_nil]; omega)];congr 3;unfold jD;rw[Tr];simp only[List.append_assoc]
 simp only[ac6,aat,mk_10,mk_up,mk_lo,o,m,Zs h.v]
 cases j:c.2.2.1 with
 |true=>rw[Ĭ]; exact fin true j.symm
 |false=>rw[ë]; exact fin false j.symm
end Go.Proofs.ZzM
end

noncomputable section
namespace Go.Proofs.ZzM
open Go Go.Am
variable {ρ:Type}
def V5 {t:BL} {p:Nat} (h:p<t.length):(T2 (ofL t) (p:Int)=((t[p]'h).toNat:Int)/\PD (ofL t) (p:Int)=1/\(t[p]'h).toNat<128)\/(T2 (ofL t) (p:Int)≠10/\1<=PD (ofL t) (p:Int)/\128<=(t[p]'h).toNat):=by
 have hs:p<(ofL t).size:=by rw[ô]; exact h
 have hb:(ofL t)[p]'hs=t[p]'h:=by rfl
 by_cases ha:(t[p]'h).toNat<128
 ·left;have:=decode_ascii (ofL t) p hs (by rw[hb]; exact ha);unfold T2 PD;rw[Int.toNat_natCast,this,hb];exact⟨rfl,rfl,ha⟩
 ·right;have:=decode_high (ofL t) p hs (by rw[hb]; omega);unfold T2 PD;rw[Int.toNat_natCast];exact⟨by omega,by omega,by omega⟩
abbrev StP:Type:=Int×Int×Int×ByteArray×Int
abbrev pF (K:StP->x9 ρ) (v:StP) (kk:StP->x9 ρ):x9 ρ:=jr v.1 v.2.1 v.2.2.1 v.2.2.2 (fun a b c d=>kk (a,b,c,d)) K
def Wu {K:StP->x9 ρ} {t:BL} {v0 v1 v2:Int} {p:Nat} (h:t.length<=p) (a:StP->x9 ρ):pF K (v0,v1,v2,ofL t,(p:Int)) a=K (v0,v1,v2,ofL t,(p:Int)):=by
 unfold pF jr;rw[Ö (by rw[jb,ô]; simp[ilt]; omega)]
def KE {K:StP->x9 ρ} {t:BL} {v0 v1 v2:Int} {p:Nat} (h:p<t.length) (hs:t.length<=1000000) (d:StP->x9 ρ) :
 ((t[p]'h).toNat<128/\pF K (v0,v1,v2,ofL t,(p:Int)) d=if t[p]'h=10 then d (v1,v2,((p+1:Nat):Int),ofL t,((p+1:Nat):Int)) else d (v0,v1,v2,ofL t,((p+1:Nat):Int)))\/(128<=(t[p]'h).toNat/\∃q:Nat,p<q/\pF K (v0,v1,v2,ofL t,(p:Int)) d=d (v0,v1,v2,ofL t,(q:Int))):=by
 unfold pF jr;dsimp only;rw[à (by rw[jb,ô]; simp[ilt]; omega)];rcases V5 h with⟨g,h2,f⟩|⟨g,h2,f⟩
 ·refine .inl ⟨f,?_⟩;rw[g,h2]
  by_cases a:t[p]'h=10
  ·rw[if_pos a,à (by rw[a]; rfl),ð (by omega) (by omega)];rfl
  ·have j:¬(t[p]'h).toNat=10:=fun e=>a (UInt8.toNat_inj.1 (e.trans rfl))
   have:((t[p]'h).toNat:Int)≠10:=by omega
   rw[if_neg a,Ö (by simpa[ieq] using this)];rfl
 ·refine .inr ⟨f,(p+PD (ofL t) p).toNat,by omega,?_⟩;rw[Ö (by simpa[ieq] using g),fk (by omega)]
def TW {K:StP->x9 ρ} {t:BL} (hs:t.length<=1000000):∀(n p v0 v1 v2:Nat),t.length-p<=n->v0<=v1->v1<=v2->v2<=p->v2<=t.length ->
 ∃(a b:Nat) (c:Int) (q:Int),a<=b/\b<=t.length/\∀m,n<m->iter (pF K) m ((v0:Int),(v1:Int),(v2:Int),ofL t,(p:Int))=K ((a:Int),(b:Int),c,ofL t,q):=by
 intro n
 induction n with
 |zero =>
  intro p v0 v1 v2 hn o h2 A w;refine⟨v0,v1,v2,p,o,by omega,fun m r=>?_⟩;obtain⟨m,rfl⟩:∃k,m=k+1:=⟨m-1,by omega⟩;exact Wu (by omega) _
 |succ n v =>
  intro p v0 v1 v2 hn o h2 A w
  by_cases hp:t.length<=p
  ·refine⟨v0,v1,v2,p,o,by omega,fun m r=>?_⟩;obtain⟨m,rfl⟩:∃k,m=k+1:=⟨m-1,by omega⟩;exact Wu hp _
  have hp:p<t.length:=by omega
  rcases KE (K:=K) (v0:=v0) (v1:=v1) (v2:=v2) hp hs (fun _=>none) with⟨ha,_⟩|⟨ha,_⟩
  ·by_cases j:t[p]'hp=10
   ·obtain⟨a,b,c,q,g,f,d⟩:=v (p+1) v1 v2 (p+1) (by omega) h2 (by omega) (bX _) (by omega);refine⟨a,b,c,q,g,f,fun m r=>?_⟩;obtain⟨m,rfl⟩:∃k,m=k+1:=⟨m-1,by omega⟩;rcases KE (K:=K) (v0:=v0) (v1:=v1) (v2:=v2) hp hs (iter (pF K) m) with⟨_,e⟩|⟨hb,_⟩
    ·show pF K _ (iter (pF K) m)=_;rw[e,if_pos j,d m (by omega)]
    ·omega
   ·obtain⟨a,b,c,q,g,f,d⟩:=v (p+1) v0 v1 v2 (by omega) o h2 (by omega) w;refine⟨a,b,c,q,g,f,fun m r=>?_⟩;obtain⟨m,rfl⟩:∃k,m=k+1:=⟨m-1,by omega⟩;rcases KE (K:=K) (v0:=v0) (v1:=v1) (v2:=v2) hp hs (iter (pF K) m) with⟨_,e⟩|⟨hb,_⟩
    ·show pF K _ (iter (pF K) m)=_;rw[e,if_neg j,d m (by omega)]
    ·omega
  ·have z:∀u:StP->x9 ρ,∃q:Nat,p<q/\(q:Int)=p+PD (ofL t) p/\pF K ((v0:Int),(v1:Int),(v2:Int),ofL t,(p:Int)) u=u ((v0:Int),(v1:Int),(v2:Int),ofL t,(q:Int)):=fun u=>by
    rcases V5 hp with⟨_,_,A⟩|⟨J,M,_⟩
    ·omega
    ·refine⟨(p+PD (ofL t) p).toNat,by omega,by omega,?_⟩;unfold pF jr;dsimp only;rw[à (by rw[jb,ô]; simp[ilt]; omega),Ö (by simpa[ieq] using J),Int.toNat_of_nonneg (by omega)]
   obtain⟨q,I,F,_⟩:=z fun _=>none;obtain⟨a,b,c,D,g,f,d⟩:=v q v0 v1 v2 (by omega) o h2 (by omega) w;refine⟨a,b,c,D,g,f,fun m r=>?_⟩;obtain⟨m,rfl⟩:∃k,m=k+1:=⟨m-1,by omega⟩;obtain⟨C,_,E,e⟩:=z (iter (pF K) m);show pF K _ (iter (pF K) m)=_;rw[e,show C=q by omega,d m (by omega)]
def nlF:BL->Nat->Nat×Nat×Nat->Nat×Nat×Nat
 |[],_,v=>v
 |b::l,p,v=>nlF l (p+1) (if b=10 then(v.2.1,v.2.2,p+1) else v)
def TV {K:StP->x9 ρ} {t:BL} (hs:t.length<=1000000) (ha:∀x∈t,x.toNat<128):∀(r:BL) (p:Nat) (v:Nat×Nat×Nat),t.drop p=r->p+r.length=t.length->∀m,r.length<m ->
 iter (pF K) m ((v.1:Int),(v.2.1:Int),(v.2.2:Int),ofL t,(p:Int))=K (((nlF r p v).1:Int),((nlF r p v).2.1:Int),((nlF r p v).2.2:Int),ofL t,(t.length:Int)):=by
 intro r
 induction r with
 |nil =>
  intro p v hd hl m f;obtain⟨m,rfl⟩:∃k,m=k+1:=⟨m-1,by omega⟩
  have:p=t.length:=by simpa using hl
  subst this;exact Wu (bX _) _
 |cons b r g =>
  intro p v hd hl m f;obtain⟨m,rfl⟩:∃k,m=k+1:=⟨m-1,by omega⟩
  have hp:p<t.length:=by simp at hl; omega
  have hb:t[p]'hp=b:=by
   have:=dV (xs:=t) (i:=p) (j:=0);rw[hd] at this;simp at this;rw[bY hp] at this;exact(Option.some.inj this).symm
  have d:t.drop (p+1)=r:=by rw[<-eW,hd]; rfl
  rcases KE (K:=K) (v0:=v.1) (v1:=v.2.1) (v2:=v.2.2) hp hs (iter (pF K) m) with⟨_,e⟩|⟨o,_⟩
  ·show pF K _ (iter (pF K) m)=_;rw[e,hb];unfold nlF
   by_cases a:b=10
   ·rw[if_pos a,if_pos a];exact g (p+1) (v.2.1,v.2.2,p+1) d (by simp at hl; omega) m (by simp at f; omega)
   ·rw[if_neg a,if_neg a];exact g (p+1) v d (by simp at hl; omega) m (by simp at f; omega)
  ·have:=ha _ (fh hp); omega
def EX:∀(a b:BL) (p:Nat) (v:Nat×Nat×Nat),nlF (a++b) p v=nlF b (p+a.length) (nlF a p v)
 |[],_,_,_=>rfl
 |x::a,b,p,v=>by
  show nlF (a++b) (p+1) (if x=10 then(v.2.1,v.2.2,p+1) else v)=nlF b (p+(a.length+1)) (nlF a (p+1) (if x=10 then(v.2.1,v.2.2,p+1) else v));rw[EX a b,show p+1+a.length=p+(a.length+1) by omega]
def Sd:∀(a:BL) (p:Nat) (v:Nat×Nat×Nat),(∀x∈a,x≠10)->nlF a p v=v
 |[],_,_,_=>rfl
 |x::a,p,v,h=>by unfold nlF; rw[if_neg (h x (.head _))]; exact Sd a _ _ fun y d=>h y (.tail _ d)
def WS {a:BL} (p:Nat) (v:Nat×Nat×Nat) (h:∀x∈a,x≠10):nlF (a++[10]) p v=(v.2.1,v.2.2,p+a.length+1):=by
 rw[EX,Sd a _ _ h]; rfl
def Sf:∀(d:y5 BL) (p:Nat) (v:Nat×Nat×Nat),d≠[]->(∀l∈d,∀x∈l,x≠10)->∃a b,nlF (d.flatMap fun l=>l++[10]) p v=(a,b,p+(d.flatMap fun l=>l++[10]).length)
 |[l],p,v,_,h=>⟨v.2.1,v.2.2,by rw[cH,fH,cn,WS p v (h l (.head _))]; simp[dR]⟩
 |l::k::d,p,v,_,h=>by
  obtain⟨a,b,e⟩:=Sf (k::d) (p+(l++[10]).length) (nlF (l++[10]) p v) (by simp) fun x f=>h x (.tail _ f);refine⟨a,b,?_⟩;rw[cH,EX,e,b7 (as:=l++[10]),dR]
def acP {α:Type} (l:y5 α):ē l=(l.length:Int):=rfl
def Ew (ws:y5 BL) (hl:ws.length<=1000000) (a:∀w∈ws,w.length<=1000000):rW (ws.map ofL)=some (ws.map jC):=uZ ws hl a
def MF (l:BL) (c:UInt8) (hl:l.length<=1000000):tp (ofL l) (ofL [c])=some ((O1 c l).map ofL):=TH l c hl
def C7 (l p:BL) (hl:l.length<=1000000):ŕ (ofL l) (ofL p)=some (decide (l.take p.length=p)):=by
 unfold ŕ nB ī Ŵ;rw[jb,jb,ô,ô]
 by_cases h:p.length<=l.length
 ·rw[à (by simpa[ige] using h),cp,Į (by simp[ile]; omega),Ρ,Ck]; simp
 ·rw[Ö (by simp[ige]; omega)]
  have:l.take p.length≠p:=fun e=>by have:=congrArg List.length e; simp at this; omega
  simp[this]
def iF (t:BL) (a b:Nat):y5 BL:=O1 32 (Lib.trimSuffix ((t.take b).drop a) [10])++[[],[],[],[],[]]
def A4 (t:BL) (b:Nat):y5 Int:=((O1 32 (Lib.trimSuffix ((t.take t.length).drop b) [10])).drop 1).map jC
def QT (t:BL) (a b:Nat) (k:Ý):od:=(k,(jC ((iF t a b).getD 1 []),jC ((iF t a b).getD 2 [])),decide ((iF t a b).getD 3 []=[117,112,112,101,114]),jC ((iF t a b).getD 4 []),A4 t b)
def I6 (t:BL) (a b:Nat):od×Int :=
 if a=0 then(YG,7) else if ((t.take t.length).drop a).take 5≠[99,101,114,116,32] then(YG,7) else if ((t.take t.length).drop b).take 5≠[99,104,97,105,110] then(YG,7) else
 match MW (t.take a) with
 |none=>(YG,7)
 |some k=>if 80<(A4 t b).length\/jD (QT t a b k)≠t then(YG,7) else(QT t a b k,0)
def Ğ.fine {b:Ý} (h:Ğ b):Vo b:=⟨h.size.w,fun g a=>(h.prints.gauges g a _ (by simp[SW])).i64⟩
def U5 {t:BL} {a b:Nat} {k:Ý} (h:Ğ k):Vn (QT t a b k):=⟨h.fine,uL _,uL _,uL _,fun n hn=>by
 obtain⟨w,_,rfl⟩:=cR.1 (show n∈A4 t b from hn)
 exact uL w⟩
def Yu (l:BL):1<=(O1 32 l).length/\(O1 32 l).length<=l.length+1:=by
 obtain⟨w,ws,e⟩:=LQ 32 l [];have:=Eh 32 l [];exact⟨by show 1<=(O0 32 [] l).length; rw[e]; simp,this⟩
def Lw {ws:y5 BL} (i:Nat) {c:Int} (d:c=i) (h:i<ws.length) (f:Int->x9 ρ):ă (ws.map jC) c f=f (jC (ws.getD i [])):=by
 subst d;rw[Ç (a:=jC (ws.getD i [])) (by rw[d9,fL,bY h]; rfl)]
end Go.Proofs.ZzM
end

noncomputable section
namespace Go.Proofs.ZzM
open Go Go.Am
def yn {α:Type} [DecidableEq α] {l m:y5 α} (hl:l.length=m.length) (h:Ŕ (fun i a=>if m[i]?=some a then none else some false) 0 l=none):l=m:=by
 have:=kP.1 h;refine List.ext_getElem hl fun i f h2=>?_;have d:=this i l[i] (bY f);rw[cF] at d
 split at d
 ·rename_i e;rw[bY h2] at e;exact(Option.some.inj e).symm
 ·cases d
def ym {α:Type} [DecidableEq α] {l m:y5 α} {b:Bool} (h:Ŕ (fun i a=>if m[i]?=some a then none else some false) 0 l=some b):b=false/\l≠m:=by
 constructor
 ·have:∀(k:Nat) (x:y5 α) (b:Bool),Ŕ (fun i a=>if m[i]?=some a then none else some false) k x=some b->b=false:=by
   intro k x
   induction x generalizing k with
   |nil=>intro b h; cases h
   |cons a t f =>
    intro b h;unfold Ŕ at h
    split at h
    ·rename_i c d
     split at d
     ·cases d
     ·cases d; cases h; rfl
    ·exact f _ _ h
  exact this _ _ _ h
 ·intro e;subst e;rw[kP.2 fun j a ha=>by rw[cF,if_pos ha]] at h;cases h
instance dec1:DecidableEq ((Int×Int)×Int):=fun a b=>instDecidableEqProd a b
instance dec2:DecidableEq ((Int×Int)×((Int×Int)×Int)):=fun a b=>instDecidableEqProd a b
instance dec3:DecidableEq (Int×(Int×Int)×((Int×Int)×Int)):=fun a b=>instDecidableEqProd a b
instance dec4:DecidableEq (Int×Int×(Int×Int)×((Int×Int)×Int)):=fun a b=>instDecidableEqProd a b
instance decG:DecidableEq é:=fun a b=>instDecidableEqProd a b
instance decL:DecidableEq vW:=fun a b=>instDecidableEqProd a b
instance decI4:DecidableEq (Int×(Int×(Int×Int))):=fun a b=>instDecidableEqProd a b
instance decI5:DecidableEq (y5 Int×Int×(Int×(Int×Int))):=fun a b=>instDecidableEqProd a b
instance decI6:DecidableEq (y5 Int×y5 Int×Int×(Int×(Int×Int))):=fun a b=>instDecidableEqProd a b
instance decI7:DecidableEq (Int×y5 Int×y5 Int×Int×(Int×(Int×Int))):=fun a b=>instDecidableEqProd a b
instance decC:DecidableEq Cmp:=fun a b=>instDecidableEqProd a b
def KO {α:Type} [DecidableEq α] (x:α) (l:y5 α):Bool:=l.any fun a=>decide (x=a)
def D0 {α:Type} [DecidableEq α] {x:α} {l:y5 α}:KO x l=true↔x∈l:=by
 unfold KO;rw[List.any_eq_true];exact⟨fun⟨a,d,h2⟩=>by rw[of_decide_eq_true h2]; exact d,fun h=>⟨x,h,decide_eq_true rfl⟩⟩
def Qg {α:Type} [DecidableEq α] (l:y5 α) (x:α):ige (match l.findIdx? (fun a=>decide (x=a)) with|some j=>(j:Int)|none=>-1) 0=KO x l:=by
 cases h:l.findIdx? (fun a=>decide (x=a)) with
 |none =>
  have:KO x l=false:=by
   cases d:KO x l with
   |false=>rfl
   |true=>have:=df.1 h x (D0.1 d); simp at this
  rw[this];rfl
 |some j =>
  obtain⟨e,hp,_⟩:=cQ.1 h
  have:x∈l:=by rw[of_decide_eq_true hp]; exact fh _
  rw[D0.2 this];exact decide_eq_true (by dsimp only; omega)
def WW {ρ:Type} (o:x9 Nat) (f:Int->x9 ρ):(match o with|some j=>f (j:Int)|none=>f (-1))=f (match o with|some j=>(j:Int)|none=>-1):=by cases o<;>rfl
def Pr {l:y5 (Int×Int)} (hl:l.length<=1000000) (x:Int×Int):ĉ l x=some (KO x l):=by
 unfold ĉ gI ũ iM
 have e:Î (fun(f:Int) d=>ć l (Û l) x.1 x.2 f (fun g=>d g) (fun z3=>some z3) (fun _=>some (-1:Int))) (0:Int)=some (match l.findIdx? (fun a=>decide (x=a)) with|some j=>(j:Int)|none=>-1):=by
  refine(Δ l (fun a=>decide (x=a)) (fun z=>some z) (some (-1)) (fun i a hi ha kn=>?_) (fun kn=>?_)).trans (WW _ some)
  ·try dsimp only
   unfold ć
   have e:((ĺ x.1 a.1)&&((ĺ x.2 a.2)&&true))=decide (x=a):=by
    rw[eI]; simp[ĺ,gq]
   rw[Ó hi,Ç ha,Í hi (by omega),ģ,e]
  ·try dsimp only
   unfold ć;rw[á]
 rw[e,À];exact congrArg some (Qg l x)
def Mj {l:y5 vW} (hl:l.length<=1000000) (x:vW):ÿ l x=some (KO x l):=by
 unfold ÿ Μ Ŗ gT
 have e:Î (fun(f:Int) d=>ý l (Û l) x.1 x.2.1.1 x.2.1.2 x.2.2 f (fun g=>d g) (fun z3=>some z3) (fun _=>some (-1:Int))) (0:Int)=some (match l.findIdx? (fun a=>decide (x=a)) with|some j=>(j:Int)|none=>-1):=by
  refine(Δ l (fun a=>decide (x=a)) (fun z=>some z) (some (-1)) (fun i a hi ha kn=>?_) (fun kn=>?_)).trans (WW _ some)
  ·try dsimp only
   unfold ý
   have e:((ĺ x.1 a.1)&&((ĺ x.2.1.1 a.2.1.1)&&((ĺ x.2.1.2 a.2.1.2)&&((ĺ x.2.2 a.2.2)&&true))))=decide (x=a):=by
    rw[eI]; simp[ĺ,gq,and_assoc]
   rw[Ó hi,Ç ha,Í hi (by omega),ģ,e]
  ·try dsimp only
   unfold ý;rw[á]
 rw[e,À];exact congrArg some (Qg l x)
def Ps {l:y5 é} (hl:l.length<=1000000) (x:é):Ď l x=some (KO x l):=by
 unfold Ď ų Ņ ψ
 have e:Î (fun(f:Int) d=>û l (Û l) x.1 x.2.1 x.2.2.1 x.2.2.2.1.1 x.2.2.2.1.2 x.2.2.2.2.1.1 x.2.2.2.2.1.2 x.2.2.2.2.2 f (fun g=>d g) (fun z3=>some z3) (fun _=>some (-1:Int))) (0:Int)=some (match l.findIdx? (fun a=>decide (x=a)) with|some j=>(j:Int)|none=>-1):=by
  refine(Δ l (fun a=>decide (x=a)) (fun z=>some z) (some (-1)) (fun i a hi ha kn=>?_) (fun kn=>?_)).trans (WW _ some)
  ·try dsimp only
   unfold û
   have e:((ĺ x.1 a.1)&&((ĺ x.2.1 a.2.1)&&((ĺ x.2.2.1 a.2.2.1)&&((ĺ x.2.2.2.1.1 a.2.2.2.1.1)&&((ĺ x.2.2.2.1.2 a.2.2.2.1.2)&&((ĺ x.2.2.2.2.1.1 a.2.2.2.2.1.1)&&((ĺ x.2.2.2.2.1.2 a.2.2.2.2.1.2)&&((ĺ x.2.2.2.2.2 a.2.2.2.2.2)&&true))))))))=decide (x=a):=by
    rw[eI]; simp[ĺ,gq,and_assoc]
   rw[Ó hi,Ç ha,Í hi (by omega),ģ,e]
  ·try dsimp only
   unfold û;rw[á]
 rw[e,À];exact congrArg some (Qg l x)
def xa (b:Ý):y5 Int:=b.2.1.map fun g=>g.1
def jy {α:Type} [DecidableEq α] (x y:y5 α) (w:α->Bool):Bool:=x.all fun a=>!w a||KO a y
def yy (s b:Ý):Bool :=
 jy s.2.2.2.2.1 b.2.2.2.2.1 (fun _=>true)&&(decide (s.1=b.1)&&(jy s.2.1 b.2.1 (fun _=>true)&&(jy s.2.2.1 b.2.2.1 (fun u=>(xa s).contains u.1)&&(jy b.2.2.1 s.2.2.1 (fun u=>(xa s).contains u.1) &&
  (jy s.2.2.2.1 b.2.2.2.1 (fun u=>(xa s).contains u.1)&&jy b.2.2.2.1 s.2.2.2.1 (fun u=>(xa s).contains u.1))))))
section
variable {ρ:Type}
def Co {α:Type} [DecidableEq α] (x y:y5 α) (w:α->Bool) (X Y d:x9 ρ) {f:Int->(Int->x9 ρ)->x9 ρ}
 (h:∀(i:Nat) (a:α),i<x.length->x[i]?=some a->∀kn,f i kn=if !(!w a||KO a y) then(ifb (!(ige (i:Int) 0)) X d) else kn ((i:Int)+1))
 (hn:∀kn,f x.length kn=Y):Î f 0=if jy x y w then Y else d:=by
 refine(jR x (fun a=>!(!w a||KO a y)) (fun z=>ifb (!(ige z 0)) X d) d Y (fun j=>by rw[show ige (j:Int) 0=true from decide_eq_true (by omega)]; rfl) h hn).trans ?_;unfold jy;rw[List.all_eq_not_any_not]
 cases x.any fun a=>!(!w a||KO a y)<;>rfl
def acK:@rh ρ=@kD ρ:=rfl
def JJ {x y:y5 Int} (hl:x.length=y.length) (o:x.length<=1000000) (j:Bool->x9 ρ) (K:x9 ρ) :
 Î (fun(f:Int) d=>kD x y (Û x) f (fun g=>d g) j (fun _=>K)) (0:Int)=if x=y then K else j false:=by
 refine(jt x (fun i a=>if y[i]?=some a then none else some false) j K (fun i a hi ha kn=>?_) (fun kn=>?_)).trans ?_
 ·try dsimp only
  unfold kD;have k:y[i]?=some y[i]:=List.getElem?_eq_getElem (by omega);rw[Ó hi,Ç ha,Ç k,Í hi (by omega),k,ģ]
  by_cases h:a=y[i]
  ·simp[ine,h]
  ·have h':¬y[i]=a:=fun e=>h e.symm;simp[ine,h,h']
 ·try dsimp only
  unfold kD;rw[á]
 ·cases h:Ŕ (fun i a=>if y[i]?=some a then none else some false) 0 x with
  |none=>rw[if_pos (yn hl h)]
  |some b =>
   obtain⟨m,h2⟩:=ym h;rw[if_neg h2,m]
def V2 {l:y5 Cmp} (hl:l.length<=1000) (c:Cmp) (O:c.2.2.1.length<=1000) (M:c.2.2.2.1.length<=1000) (q:Int->x9 ρ) (F E:x9 ρ) (hk:∀j:Nat,q (j:Int)=F) :
 Î (fun(u:Int) r=>nI l (Û l) c.1 c.2.1 c.2.2.1 c.2.2.2.1 c.2.2.2.2.1 c.2.2.2.2.2.1 c.2.2.2.2.2.2.1 c.2.2.2.2.2.2.2 u (fun v=>r v) q (fun _=>E)) (0:Int)=if KO c l then F else E:=by
 refine(jR l (fun d=>decide (c=d)) q F E hk (fun i d hi hd kn=>?_) (fun kn=>?_)).trans rfl
 ·try dsimp only
  unfold nI
  have a:(c=d)↔(c.1=d.1/\c.2.1=d.2.1/\c.2.2.2.2.1=d.2.2.2.2.1/\c.2.2.2.2.2.1=d.2.2.2.2.2.1/\(c.2.2.2.2.2.2.1=d.2.2.2.2.2.2.1/\c.2.2.2.2.2.2.2=d.2.2.2.2.2.2.2)/\c.2.2.1=d.2.2.1/\c.2.2.2.1=d.2.2.2.1):=by
   simp only[gq];constructor
   ·rintro⟨p,o,a3,m,k,D,C,A⟩; exact⟨p,o,k,D,⟨C,A⟩,a3,m⟩
   ·rintro⟨p,o,k,D,⟨C,A⟩,a3,m⟩; exact⟨p,o,a3,m,k,D,C,A⟩
  have f:∀{P:Prop},¬P->(c=d->P)->(if decide (c=d)=true then q (i:Int) else kn ((i:Int)+1))=kn ((i:Int)+1):=fun K h2=>by
   rw[if_neg];intro h;exact K (h2 (of_decide_eq_true h))
  rw[Ó hi,Ç hd,Í hi (by omega)]
  by_cases p:c.1=d.1
  case neg=>rw[f p (fun e=>(a.1 e).1),Ö (beq_eq_false_iff_ne.2 p)]
  rw[à (beq_iff_eq.2 p)]
  by_cases o:c.2.1=d.2.1
  case neg=>rw[f o (fun e=>(a.1 e).2.1),Ö (beq_eq_false_iff_ne.2 o)]
  rw[à (beq_iff_eq.2 o)]
  by_cases a3:c.2.2.2.2.1=d.2.2.2.2.1
  case neg=>rw[f a3 (fun e=>(a.1 e).2.2.1),Ö (beq_eq_false_iff_ne.2 a3)]
  rw[à (beq_iff_eq.2 a3)]
  by_cases m:c.2.2.2.2.2.1=d.2.2.2.2.2.1
  case neg=>rw[f m (fun e=>(a.1 e).2.2.2.1),Ö (beq_eq_false_iff_ne.2 m)]
  rw[à (beq_iff_eq.2 m)]
  by_cases k:c.2.2.2.2.2.2.1=d.2.2.2.2.2.2.1/\c.2.2.2.2.2.2.2=d.2.2.2.2.2.2.2
  case neg=>rw[f k (fun e=>(a.1 e).2.2.2.2.1),Ö (by simp only[ĺ,fM,gd,decide_eq_false_iff_not]; exact Decidable.not_and_iff_or_not.1 k)]
  rw[à (by simp[ĺ,k.1,k.2]),è,è,è,è]
  have rest:∀X Y:x9 ρ,(c.2.2.1=d.2.2.1)->(if decide (c=d)=true then q (i:Int) else kn ((i:Int)+1))=(if c.2.2.2.1=d.2.2.2.1 then q (i:Int) else kn ((i:Int)+1)):=by
   intro _ _ h
   by_cases g:c.2.2.2.1=d.2.2.2.1
   ·rw[if_pos (decide_eq_true (a.2 ⟨p,o,a3,m,k,h,g⟩)),if_pos g]
   ·rw[if_neg g]; exact f g (fun e=>(a.1 e).2.2.2.2.2.2)
  by_cases z:c.2.2.1.length=d.2.2.1.length
  case neg =>
   rw[f z (fun e=>by rw[e]),à (bne_iff_ne.2 (by omega))]
  rw[Ö (by rw[z]; exact bne_self_eq_false' _)];have J:=JJ (ρ:=ρ) z (by omega);rw[è] at J;rw[J]
  by_cases t:c.2.2.1=d.2.2.1
  case neg=>rw[if_neg t,ë,f t (fun e=>(a.1 e).2.2.2.2.2.1)]
  rw[if_pos t,rest none none t]
  by_cases w:c.2.2.2.1.length=d.2.2.2.1.length
  case neg =>
   rw[à (bne_iff_ne.2 (by omega)),if_neg (fun e=>w (by rw[e]))]
  rw[Ö (by rw[w]; exact bne_self_eq_false' _),acK];have I:=JJ (ρ:=ρ) w (by omega);rw[è] at I;rw[I,ë]
 ·try dsimp only
  unfold nI;rw[á]
def acJ:@kB ρ=@jf ρ:=rfl
def acI:@ą ρ=@Ħ ρ:=rfl
def adX {x y:y5 é} (k:x.length<=1000) (j:y.length<=1000) (X Y g:x9 ρ):Î (fun(e:Int) d=>nH x (Û x) y e (fun f=>d f) (fun z=>ifb (!(ige z 0)) X g) (fun _=>Y)) (0:Int)=if jy x y (fun _=>true) then Y else g:=by
 refine Co x y (fun _=>true) X Y g (fun i a hi ha kn=>?_) (fun kn=>?_)
 ·try dsimp only
  unfold nH;rw[Ó hi,Ç ha,Ps (by omega),À,Í hi (by omega),ģ];simp
 ·try dsimp only
  unfold nH;rw[á]
def Zr {x y:y5 (Int×Int)} (k:x.length<=1000) (j:y.length<=1000) (ids:y5 Int) (X Y g:x9 ρ):Î (fun(e:Int) d=>jf x (Û x) (Hy ids) y e (fun f=>d f) (fun z=>ifb (!(ige z 0)) X g) (fun _=>Y)) (0:Int)=if jy x y (fun u=>ids.contains u.1) then Y else g:=by
 refine Co x y (fun u=>ids.contains u.1) X Y g (fun i a hi ha kn=>?_) (fun kn=>?_)
 ·try dsimp only
  unfold jf;rw[Ó hi,Ç ha,un,Pr (by omega),À]
  by_cases h:ids.contains a.1=true
  ·rw[if_pos h,Ĭ,Í hi (by omega),ģ,h];simp
  ·rw[if_neg h,Í hi (by omega)];have h':=Bool.not_eq_true _▸h;rw[h'];simp
 ·try dsimp only
  unfold jf;rw[á]
def Zq {x y:y5 vW} (k:x.length<=1000) (j:y.length<=1000) (ids:y5 Int) (X Y g:x9 ρ):Î (fun(e:Int) d=>Ħ x (Û x) (Hy ids) y e (fun f=>d f) (fun z=>ifb (!(ige z 0)) X g) (fun _=>Y)) (0:Int)=if jy x y (fun u=>ids.contains u.1) then Y else g:=by
 refine Co x y (fun u=>ids.contains u.1) X Y g (fun i a hi ha kn=>?_) (fun kn=>?_)
 ·try dsimp only
  unfold Ħ;rw[Ó hi,Ç ha,un,Mj (by omega),À]
  by_cases h:ids.contains a.1=true
  ·rw[if_pos h,Ĭ,Í hi (by omega),ģ,h];simp
  ·rw[if_neg h,Í hi (by omega)];have h':=Bool.not_eq_true _▸h;rw[h'];simp
 ·try dsimp only
  unfold Ħ;rw[á]
def adW {x y:y5 vW} (j:x.length<=1000) (g:y.length<=1000) (ids:y5 Int) (k:Bool->x9 ρ):Î (fun(d:Int) a=>Ħ x (Û x) (Hy ids) y d (fun f=>a f) (fun z=>k (!(ige z 0))) (fun _=>k true)) (0:Int)=k (jy x y (fun u=>ids.contains u.1)):=by
 have h:=Zq (ρ:=ρ) j g ids (k true) (k true) (k false)
 have e:(fun z:Int=>ifb (!(ige z 0)) (k true) (k false))=fun z=>k (!(ige z 0)):=by
  funext z
  cases(!(ige z 0))<;>rfl
 rw[e] at h;rw[h]
 cases jy x y (fun u=>ids.contains u.1)<;>rfl
def adY {x y:y5 Cmp} (k:x.length<=1000) (hp:∀c∈x,c.2.2.1.length<=1000/\c.2.2.2.1.length<=1000) (g:y.length<=1000) (K:x9 Bool):Î (fun(d:Int) a=>nJ x (Û x) y d (fun e=>a e) (fun z44=>some z44) (fun _=>K)) (0:Int)=if (x.all fun c=>KO c y)=true then K else some false:=by
 refine(jR x (fun c=>!KO c y) (fun _=>some false) (some false) K (fun _=>rfl) (fun i c hi f kn=>?_) (fun kn=>?_)).trans ?_
 rotate_left
 ·try dsimp only
  unfold nJ;rw[á]
 ·rw[List.all_eq_not_any_not]
  cases x.any fun c=>!KO c y<;>rfl
 ·try dsimp only
  unfold nJ;have h:=hp c (List.mem_of_getElem? f);rw[Ó hi,Ç f];refine(V2 g c h.1 h.2 _ (kn ((i:Int)+1)) (some false) (fun j=>by rw[show ige (j:Int) 0=true from decide_eq_true (by omega),Í hi (by omega)]; rfl)).trans ?_
  cases KO c y<;>rfl
end
def part_ok {s b:Ý} (hs:j7 s) (hb:j7 b):AK s b=some (yy s b):=by
 have p:=hs.gauges; have k:=hs.uses; have j:=hs.loans; have o:=hs.compares;have r:=hb.gauges; have m:=hb.uses; have b3:=hb.loans; have q:=hb.compares;unfold AK KS yy;rw[acJ,acI];refine(Ġ s.2.1 (fun i=>Hy (xa (s.1,s.2.1.take i,s.2.2))) (some _) rfl (fun i g hi f kn=>?_) (fun kn=>?_))
 ·try dsimp only
  unfold ri;rw[Ó hi,Ç f,Í hi (by omega)];unfold xa;dsimp only;rw[take_succ f,List.map_append,List.map_singleton,tz]
 ·try dsimp only
  unfold ri;rw[á,List.take_length]
  try dsimp only
  rw[show xa (s.1,s.2.1,s.2.2)=xa s from rfl];refine(adY o hs.piles q _).trans ?_;rw[show(jy s.2.2.2.2.1 b.2.2.2.2.1 fun _=>true)=s.2.2.2.2.1.all fun c=>KO c b.2.2.2.2.1 from rfl]
  by_cases d:(s.2.2.2.2.1.all fun c=>KO c b.2.2.2.2.1)=true
  case neg=>rw[if_neg d,dQ.2 d]; rfl
  rw[if_pos d,d,dk]
  by_cases a:s.1=b.1
  case neg =>
   have e:(ĺ s.1.1 b.1.1&&(ĺ s.1.2 b.1.2&&true))=false:=by
    rw[gq] at a;simp[ĺ];omega
   rw[e,ë,decide_eq_false a];rfl
  have e:(ĺ s.1.1 b.1.1&&(ĺ s.1.2 b.1.2&&true))=true:=by simp[ĺ,a]
  rw[e,Ĭ,decide_eq_true a,dk];refine(adX p r _ _ _).trans ?_;cases jy s.2.1 b.2.1 fun _=>true
  case false=>rfl
  rw[if_pos rfl,dk];refine(Zr k m _ _ _ _).trans ?_;cases jy s.2.2.1 b.2.2.1 fun u=>(xa s).contains u.1
  case false=>rfl
  rw[if_pos rfl,dk];refine(Zr m k _ _ _ _).trans ?_;cases jy b.2.2.1 s.2.2.1 fun u=>(xa s).contains u.1
  case false=>rfl
  rw[if_pos rfl,dk];refine(Zq j b3 _ _ _ _).trans ?_;cases jy s.2.2.2.1 b.2.2.2.1 fun u=>(xa s).contains u.1
  case false=>rfl
  rw[if_pos rfl,dk];exact adW b3 j _ some
def g8 (x:y5 Int) (y:y5 Int) (l:Lk):y5 Int:=if gv x l.2.1=ň then y else y.set l.1.toNat (min (gv y l.1) (l.2.2+gv x l.2.1))
def J0 (L:y5 Lk) (N:Nat) (x:y5 Int):y5 Int:=L.foldl (g8 x) (List.replicate N ň)
def exL (L:y5 Lk) (N:Nat) (to:Int):Nat->y5 Int
 |0=>(List.replicate N ň).set to.toNat 0
 |k+1=>J0 L N (exL L N to k)
def jX (L:y5 Lk) (N:Nat) (to:Int) (most:Nat):y5 (y5 Int):=(List.range (most+1)).map (exL L N to)
section
variable {L:y5 Lk} {N:Nat}
def Cb (x y:y5 Int) (l:Lk):(g8 x y l).length=y.length:=by unfold g8; split<;>simp
def Cc (x:y5 Int):∀(M:y5 Lk) (y:y5 Int),(M.foldl (g8 x) y).length=y.length
 |[],y=>rfl
 |l::M,y=>by rw[ej,Cc x M,Cb]
def UM (x:y5 Int):(J0 L N x).length=N:=by unfold J0; rw[Cc]; simp
def QK (to:Int) (k:Nat):(exL L N to k).length=N:=by
 cases k with
 |zero=>simp[exL]
 |succ k=>exact UM _
def Lim (B:Int) (x:y5 Int):Prop:=∀v:Int,gv x v≠ň->-B<=gv x v/\gv x v<=B
def gv_out {x:y5 Int} {v:Int} (h:¬v.toNat<x.length):gv x v=0:=by
 unfold gv;rw[List.getElem?_eq_none (by omega)];rfl
def Ln {B:Int} (d:0<=B):Lim B (List.replicate N ň):=by
 intro v a
 by_cases h:v.toNat<N
 ·exfalso; apply a;unfold gv;rw[List.getElem?_replicate,if_pos h];rfl
 ·rw[gv_out (by simpa using h)]; omega
def Xy {B:Int} {y:y5 Int} (f:Lim B y) {u:Int} (g:0<=u) (hl:u.toNat<y.length) {a:Int} (ha:a≠ň->-B<=a/\a<=B):Lim B (y.set u.toNat a):=by
 intro v d
 by_cases h:v.toNat=u.toNat
 ·have:gv (y.set u.toNat a) v=a:=by
   unfold gv;rw[h,List.getElem?_set_self hl];rfl
  rw[this] at d ⊢;exact ha d
 ·have:gv (y.set u.toNat a) v=gv y v:=by
   unfold gv;rw[List.getElem?_set_ne (fun e=>h e.symm)]
  rw[this] at d ⊢;exact f v d
def SH (e:Η L N) {B:Int} (o:0<=B) (k:B<=1000000000000000000) {x y:y5 Int} (g:Lim B x) (a:Lim (B+4503599627370496) y) (hl:y.length=N) {l:Lk} (d:l∈L):Lim (B+4503599627370496) (g8 x y l):=by
 unfold g8
 split
 ·exact a
 ·rename_i j;have m:=e.inr l d;have h2:=e.most l d;have p:=g _ j;refine Xy a m.1.1 (by omega) fun ha=>?_
  by_cases f:gv y l.1=ň
  ·rw[f] at ha ⊢
   have:min ň (l.2.2+gv x l.2.1)=l.2.2+gv x l.2.1:=by unfold ň; omega
   rw[this]; omega
  ·have:=a _ f;omega
def SI (f:Η L N) {B:Int} (j:0<=B) (a:B<=1000000000000000000) {x:y5 Int} (e:Lim B x):∀(M:y5 Lk),(∀l∈M,l∈L)->∀y:y5 Int,y.length=N->Lim (B+4503599627370496) y->Lim (B+4503599627370496) (M.foldl (g8 x) y)
 |[],_,y,_,d=>d
 |l::M,g,y,hl,d=>by
  rw[ej];exact SI f j a e M (fun m k=>g m (by simp[k])) _ (by rw[Cb,hl]) (SH f j a e d hl (g l (by simp)))
def Gc (d:Η L N) {to:Int} (a:0<=to/\to<N):∀k:Nat,k<=200->Lim (k*4503599627370496) (exL L N to k)
 |0,_=>by
  unfold exL;exact Xy (Ln (by omega)) a.1 (by simp; omega) (fun _=>by omega)
 |k+1,hk=>by
  have:=SI d (B:=k*4503599627370496) (by omega) (by omega) (Gc d a k (by omega)) L (fun _ h=>h) (List.replicate N ň) (by simp) (Ln (by omega));unfold exL J0
  have e:(((k+1:Nat):Int)*4503599627370496)=(k:Int)*4503599627370496+4503599627370496:=by push_cast; omega
  rw[e];exact this
def OJ {ρ:Type} (o:N<=1000) (K:y5 Int->x9 ρ) {f:Int×y5 Int->(Int×y5 Int->x9 ρ)->x9 ρ}
 (m:∀(v:Int×y5 Int) k,f v k=vg (N:Int) v.1 v.2 (fun g e=>k (g,e)) K):Î f ((0:Int),List.replicate N (0:Int))=K (List.replicate N ň):=by
 refine Ġ (List.replicate N (0:Int)) (fun i=>List.replicate i ň++List.replicate (N-i) (0:Int)) _ (by simp) (fun i a hi ha kn=>?_) (fun kn=>?_)
 ·rw[m];dsimp only;unfold vg;rw[List.length_replicate] at hi
  have d:(List.replicate i ň++List.replicate (N-i) (0:Int)).length=N:=by simp; omega
  have j:ilt (i:Int) (N:Int)=true:=decide_eq_true (by omega);rw[à j,show ē (List.replicate i ň++List.replicate (N-i) (0:Int))=(N:Int) by unfold ē; rw[d],gX (by omega) (by omega),i8 (by rw[d]; omega),ð (by omega) (by omega)];congr 2;rw[Int.toNat_natCast];rw[List.set_append_right _ _ (by simp),List.length_replicate,Nat.sub_self];rw[show N-i=(N-(i+1))+1 by omega,List.replicate_succ,List.set_cons_zero,List.replicate_succ'];simp
 ·rw[m];dsimp only;unfold vg;rw[List.length_replicate];have j:ilt (N:Int) (N:Int)=false:=decide_eq_false (by omega);rw[Ö j];simp
def okN (a:N<=1000) {ρ:Type} (x:x9 ρ):ä ((ile (0:Int) (N:Int))&&(Ú (Int.toNat (N:Int)))) x=x:=by
 rw[Į];rw[cp,Ò (by omega),fM];exact decide_eq_true (by omega)
def Xw {ρ:Type} (m:Η L N) {B:Int} (u:0<=B) (t:B<=1000000000000000000) {x:y5 Int} (q:Lim B x) (p:x.length=N) (K:y5 Int->x9 ρ) :
 Î (fun(e:fy) f=>zQ x L (Û L) e.1 e.2 (fun k j=>f (k,j)) K) ((0:Int),List.replicate N ň)=K (J0 L N x):=by
 have r:=m.len;refine Ġ L (fun i=>(L.take i).foldl (g8 x) (List.replicate N ň)) _ rfl (fun i l hi hl kn=>?_) (fun kn=>?_)
 ·try dsimp only
  unfold zQ;have o:=List.mem_of_getElem? hl;have d:=m.inr l o;have h2:=m.most l o;rw[Ó hi,Ç hl,uq d.2.1 (by omega),take_succ hl,List.foldl_append,Í hi (by omega)]
  have a:((L.take i).foldl (g8 x) (List.replicate N ň)).length=N:=by rw[Cc]; simp
  generalize (L.take i).foldl (g8 x) (List.replicate N ň)=y at a ⊢
  by_cases g:gv x l.2.1=ň
  ·rw[Ö (by rw[g]; rfl)];simp only[List.foldl_cons,List.foldl_nil];unfold g8;rw[if_pos g]
  ·have v:=q _ g;rw[à (bne_iff_ne.2 g),show ē y=(N:Int) by unfold ē; rw[a],gX d.1.1 d.1.2,i8 (by omega),uq d.2.1 (by omega),ð (by omega) (by omega),gX d.1.1 d.1.2,i8 (by omega),Í hi (by omega)];simp only[List.foldl_cons,List.foldl_nil];unfold g8;rw[if_neg g,XL]
 ·try dsimp only
  unfold zQ;rw[á,List.take_length];rfl
def aaS {ρ:Type}:@K6 ρ=@vg ρ:=rfl
def ir (to:Int) (m:Nat):(jX L N to m).length=m+1:=by simp[jX]
def qE {to:Int} {m k:Nat} (hk:k<=m):(jX L N to m)[k]?=some (exL L N to k):=by
 unfold jX;rw[List.getElem?_map,List.getElem?_range (by omega)];rfl
def aaR (e:Η L N) {to:Int} (d:0<=to/\to<N) {most:Nat} (k:most<=100):AP ((N:Int),L) to (most:Int)=some (jX L N to most):=by
 have m:=e.n60
 unfold AP NS
 dsimp only;rw[okN (by omega),Int.toNat_natCast];refine(OJ (by omega) _ (fun v g=>by rw[è,List.length_replicate])).trans ?_;rw[show ē (List.replicate N ň)=(N:Int) by simp[ē],gX d.1 d.2,i8 (by simp; omega)];refine Ġ (List.replicate most ()) (fun i=>jX L N to i) _ (by simp[jX,exL]) (fun i a hi ha kn=>?_) (fun kn=>?_)
 ·try dsimp only
  unfold D3;rw[List.length_replicate] at hi;have f:ilt (i:Int) (most:Int)=true:=decide_eq_true (by omega);rw[à f,è,ir]
  have j:(((i+1:Nat):Int)-1)=(i:Int):=by omega
  rw[j,ð (by omega) (by omega),show ē (jX L N to i)=((i+1:Nat):Int) by unfold ē; rw[ir],gX (by omega) (by omega),Int.toNat_natCast,qU (qE (Nat.le_refl i)),okN (by omega),Int.toNat_natCast];rw[aaS];refine(OJ (by omega) _ (fun v g=>by rw[è,List.length_replicate])).trans ?_;refine(Xw e (B:=i*4503599627370496) (by omega) (by omega) (Gc e d i (by omega)) (QK _ _) _).trans ?_;rw[Į (Ò (by simp only[ir,List.length_singleton]; omega)),ð (by omega) (by omega)];congr 2;unfold jX;rw[List.range_succ (n:=i+1),List.map_append];rfl
 ·try dsimp only
  unfold D3;rw[List.length_replicate];have f:ilt (most:Int) (most:Int)=false:=decide_eq_false (by omega);rw[Ö f]
def EY (L:y5 Lk) (x:y5 Int) (good:Int->Bool) (u a:Int):x9 Nat:=L.findIdx? fun l=>l.1==u&&(decide (gv x l.2.1≠ň)&&good (a+l.2.2+gv x l.2.1))
def kO (L:y5 Lk) (rest:Nat->y5 Int) (good:Int->Bool):Nat->Int->Int->y5 Int->y5 Int
 |0,_,_,out=>out
 |k+1,u,sum,out=>match EY L (rest k) good u sum with
  |some i=>kO L rest good k (L[i]?.getD (0,0,0)).2.1 (sum+(L[i]?.getD (0,0,0)).2.2) (out++[(i:Int)])
  |none=>kO L rest good k u sum out
def folL {ρ:Type} (good:Int->Bool) (v:Int) (u:y5 (y5 Int)) (C:y5 Lk) (A:Int) (v0:Int) (v1:Int) (v2:Int) (a:y5 Int) (kn:Int->Int->Int->y5 Int->x9 ρ) (t:Int×Int×y5 Int->x9 ρ):x9 ρ :=
 ifb (ilt v2 A) (ă C v2 fun d=>ifb (ieq d.1 v0) (ck (v-(1:Int)) fun w=>ă u w fun z=>ă z d.2.1 fun r=>ifb (ine r (1152921504606846976:Int)) (ck (v1+d.2.2) fun o=>ck (v-(1:Int)) fun m=>ă u m fun q=>ă q d.2.1 fun p=>ck (o+p) fun k=>ifb (good k) (ä (Ú ((List.length a)+(List.length ([v2])))) (ck (v1+d.2.2) fun j=>t (d.2.1,j,(a++([v2]))))) (ck (v2+(1:Int)) fun g=>kn v0 v1 g a)) (ck (v2+(1:Int)) fun f=>kn v0 v1 f a)) (ck (v2+(1:Int)) fun e=>kn v0 v1 e a)) (t (v0,v1,a))
def adr {ρ:Type} (D:Η L N) (good:Int->Bool) {rest:y5 (y5 Int)} {k:Nat} {x:y5 Int} (t:rest[k]?=some x) (hk:k<=100) (F:Lim 1000000000000000000 x) (M:x.length=N) {u e:Int} (hs : -1000000000000000000<=e/\e<=1000000000000000000) {out:y5 Int} (R:out.length<=1000)
 (K:Int×Int×y5 Int->x9 ρ):Î (fun(v:Int×Int×Int×y5 Int) J=>folL good ((k+1:Nat):Int) rest L (Û L) v.1 v.2.1 v.2.2.1 v.2.2.2 (fun a b c d=>J (a,b,c,d)) K) (u,e,(0:Int),out) =
  match EY L x good u e with|some i=>K ((L[i]?.getD (0,0,0)).2.1,e+(L[i]?.getD (0,0,0)).2.2,out++[(i:Int)])|none=>K (u,e,out):=by
 have O:=D.len;refine gL (fun v=>∃i:Nat,i<=L.length/\v=(u,e,(i:Int),out)/\∀j l,j<i->L[j]?=some l->(l.1==u&&(decide (gv x l.2.1≠ň)&&good (e+l.2.2+gv x l.2.1)))=false) (fun v=>L.length-v.2.2.1.toNat) ?_ ⟨0,by omega,rfl,fun j l h=>by omega⟩;rintro v ⟨i,hi,rfl,hp⟩
 have I:(((k+1:Nat):Int)-1)=(k:Int):=by omega
 rcases cW i L.length with h2|h2
 ·have hl:L[i]?=some L[i]:=bY h2;generalize L[i]=l at hl;have p:=ci hl;have w:=D.inr l p;have T:=D.most l p
  have g:(l.1==u&&(decide (gv x l.2.1≠ň)&&good (e+l.2.2+gv x l.2.1)))=false->∃y,(∃i:Nat,i<=L.length/\y=(u,e,(i:Int),out)/\∀j l,j<i->L[j]?=some l->(l.1==u&&(decide (gv x l.2.1≠ň)&&good (e+l.2.2+gv x l.2.1)))=false)/\(L.length-y.2.2.1.toNat<L.length-((u,e,(i:Int),out):Int×Int×Int×y5 Int).2.2.1.toNat)/\y=(u,e,(i:Int)+1,out):=fun f =>
   ⟨_,⟨i+1,h2,by rw[show((i+1:Nat):Int)=(i:Int)+1 by push_cast; rfl],fun j m q p=>by
    rcases fR.1 q with h|rfl
    ·exact hp j m h p
    ·rw[hl] at p; cases p; exact f⟩,by simp; omega,rfl⟩
  by_cases f:(l.1==u&&(decide (gv x l.2.1≠ň)&&good (e+l.2.2+gv x l.2.1)))=true
  ·refine .inl fun kn=>?_
   have o:EY L x good u e=some i:=by
    unfold EY;rw[List.findIdx?_eq_some_iff_getElem];obtain⟨S,rfl⟩:=List.getElem?_eq_some_iff.1 hl;exact⟨h2,f,fun j q=>by have:=hp j _ q (List.getElem?_eq_getElem (by omega)); rw[this]; simp⟩
   rw[o];simp only[Bool.and_eq_true,beq_iff_eq,decide_eq_true_eq] at f;have P:=F _ f.2.1;dsimp only;unfold folL
   rw[Ó h2,Ç hl,à (by simp[f.1]),I,ð (by omega) (by omega),Ç t,uq w.2.1 (by omega),à (bne_iff_ne.2 f.2.1),ð (by omega) (by omega),ð (by omega) (by omega),Ç t,uq w.2.1 (by omega),ð (by omega) (by omega),à f.2.2,
    Į (Ò (by simp; omega)),ð (by omega) (by omega),hl]
   rfl
  ·have r:=Bool.not_eq_true _▸f;obtain⟨y,C,A,rfl⟩:=g r;refine .inr ⟨_,C,A,fun kn=>?_⟩;dsimp only;unfold folL;rw[Ó h2,Ç hl,Í h2 (by omega)]
   by_cases E:l.1=u
   ·rw[à (by simp[E]),I,ð (by omega) (by omega),Ç t,uq w.2.1 (by omega)]
    by_cases z:gv x l.2.1=ň
    ·rw[Ö (by rw[z]; rfl)]
    ·have P:=F _ z
     have Q:good (e+l.2.2+gv x l.2.1)=false:=by simpa[E,z] using r
     rw[à (bne_iff_ne.2 z),ð (by omega) (by omega),ð (by omega) (by omega),Ç t,uq w.2.1 (by omega),ð (by omega) (by omega),Ö Q]
   ·rw[Ö (by simpa using E)]
 ·refine .inl fun kn=>?_
  obtain rfl:i=L.length:=by omega
  have o:EY L x good u e=none:=by
   unfold EY;rw[List.findIdx?_eq_none_iff];intro l hl;obtain⟨j,q,rfl⟩:=List.mem_iff_getElem.1 hl;exact hp j _ q (List.getElem?_eq_getElem q)
  rw[o];dsimp only;unfold folL;rw[á]
def adq {ρ:Type} (good:Int->Bool) (q:y5 (y5 Int)) (o:y5 Lk) (v0:Int) (v1:Int) (v2:Int) (m:y5 Int) (kn:Int->Int->Int->y5 Int->x9 ρ) (p:y5 Int->x9 ρ):x9 ρ :=
 ifb (igt v1 (0:Int)) (Î (fun(a:Int×Int×Int×y5 Int) d=>folL good v1 q o (Û o) a.1 a.2.1 a.2.2.1 a.2.2.2 (fun j g f e=>d (j,g,f,e)) (fun z20=>ck (v1-(1:Int)) fun k=>kn z20.1 k z20.2.1 z20.2.2)) (v0,v2,(0:Int),m)) (p m)
def abe {ρ:Type} (e:y5 (y5 Int)) (d:Int) (a:y5 Lk):@oF ρ e d a=adq (fun n=>ieq n d) e a:=rfl
def adp {ρ:Type} (t:Η L N) (good:Int->Bool) {rest:y5 (y5 Int)} {R:Nat->y5 Int} {g:Nat} (hk:g<=100) (A:∀k,k<g->rest[k]?=some (R k)) (z:∀k,k<g->Lim 900000000000000000 (R k)/\(R k).length=N) (u:Int) (K:y5 Int->x9 ρ) :
 Î (fun(v:Int×Int×Int×y5 Int) o=>adq good rest L v.1 v.2.1 v.2.2.1 v.2.2.2 (fun a b c d=>o (a,b,c,d)) K) (u,(g:Int),(0:Int),[])=K (kO L R good g u 0 []):=by
 have p:=qv (f:=fun(v:Int×Int×Int×y5 Int) o=>adq good rest L v.1 v.2.1 v.2.2.1 v.2.2.2 (fun a b c d=>o (a,b,c,d)) K) (F:=fun v=>K (kO L R good v.2.1.toNat v.1 v.2.2.1 v.2.2.2))
  (fun v=>∃k:Nat,v.2.1=k/\k<=g/\(-(((g-k:Nat):Int)*4503599627370496)<=v.2.2.1/\v.2.2.1<=((g-k:Nat):Int)*4503599627370496)/\v.2.2.2.length<=g-k) (fun v=>v.2.1.toNat) (fun v q kn hk=>?_) (x:=(u,(g:Int),0,[])) ⟨g,rfl,bX _,by simp,by simp⟩
 ·rw[p]; simp
 ·obtain⟨u,D,m,out⟩:=v;obtain⟨k,e,I,h2,C⟩:=q;dsimp only at e h2 C hk ⊢;subst e;rw[Int.toNat_natCast] at hk ⊢;unfold adq
  cases k with
  |zero =>
   rw[Ö (by rfl)];rfl
  |succ k =>
   rw[à (decide_eq_true (by omega))];have r:=z k (by omega)
   have j:Lim 1000000000000000000 (R k):=fun v q=>by have:=r.1 v q; omega
   refine(adr t good (A k (by omega)) (by omega) j r.2 (by omega) (by omega) _).trans ?_;unfold kO
   have w:(((k+1:Nat):Int)-1)=(k:Int):=by omega
   cases hn:EY L (R k) good u m with
   |none =>
    dsimp only;rw[w,ð (by omega) (by omega),hk _ ⟨k,rfl,by omega,by dsimp only; omega,by dsimp only; omega⟩ (by simp)];simp
   |some i =>
    have hi:i<L.length:=by
     unfold EY at hn;exact(List.findIdx?_eq_some_iff_getElem.1 hn).1
    have hl:L[i]?=some L[i]:=List.getElem?_eq_getElem hi;have E:=t.most L[i] (List.getElem_mem _);dsimp only;rw[hl];simp only[Option.getD_some];rw[w,ð (by omega) (by omega),hk _ ⟨k,rfl,by omega,by dsimp only; omega,by simp; omega⟩ (by simp)];simp
def xm (L:y5 Lk) (N:Nat) (u v:Int):y5 Int×Int :=
 if (lY L N u v).2≠0 then([],(lY L N u v).2) else
 match (jX L N v N).findIdx? (fun x=>gv x u==(lY L N u v).1) with
 |some k=>(kO L (exL L N v) (fun n=>ieq n (lY L N u v).1) k u 0 [],0)
 |none=>([],0)
def TL (r:Η L N) {u v:Int} (E:0<=u/\u<N) (t:0<=v/\v<N):uC ((N:Int),L) u v=some (xm L N u v):=by
 have O:=r.n60;unfold uC NV xm;rw[TN r E t,À]
 by_cases h:(lY L N u v).2=0
 ·rw[Ö (by rw[h]; rfl),if_neg (by simp[h]),aaR r t (by omega),À];rw[abe]
  let D:Int->x9 (y5 Int×Int):=fun j=>Î (fun(a:Int×Int×Int×y5 Int) d=>adq (fun n=>ieq n (lY L N u v).1) (jX L N v N) L a.1 a.2.1 a.2.2.1 a.2.2.2 (fun o m g e=>d (o,m,g,e)) (fun z28=>some ((z28,(0:Int)):y5 Int×Int))) (u,j,(0:Int),[])
  refine(Δ (jX L N v N) (fun x=>gv x u==(lY L N u v).1) D (D (-1)) (fun i x hi p kn=>?_) (fun kn=>?_)).trans ?_
  rotate_left
  ·try dsimp only
   unfold oG;rw[á]
  ·have C:∀k,k<N+1->(jX L N v N)[k]?=some (exL L N v k):=fun k hk=>qE (by omega)
   have q:∀k,k<N+1->Lim 900000000000000000 (exL L N v k)/\(exL L N v k).length=N:=fun k hk=>⟨fun w J=>by
    have:=Gc r t k (by omega) w J; omega,QK _ _⟩
   cases M:(jX L N v N).findIdx? (fun x=>gv x u==(lY L N u v).1) with
   |none =>
    have:=qv (f:=fun(a:Int×Int×Int×y5 Int) d=>adq (fun n=>ieq n (lY L N u v).1) (jX L N v N) L a.1 a.2.1 a.2.2.1 a.2.2.2 (fun o m g e=>d (o,m,g,e)) (fun z28=>some ((z28,(0:Int)):y5 Int×Int))) (F:=fun _=>some (([],0):y5 Int×Int)) (fun v=>v.2.1 = -1/\v.2.2.2=[]) (fun _=>0) (fun x p kn hk=>by
     unfold adq;rw[p.1,p.2]
     rfl) (x:=(u,(-1:Int),(0:Int),[])) ⟨rfl,rfl⟩
    exact this
   |some k =>
    have hk:=(cQ.1 M).1;rw[ir] at hk;exact adp r _ (R:=exL L N v) (by omega) (fun j K=>C j (by omega)) (fun j K=>q j (by omega)) u (fun z=>some ((z,(0:Int)):y5 Int×Int))
  ·try dsimp only
   unfold oG
   have I:x.length=N:=by
    have A:=hi;rw[ir] at A;rw[qE (by omega)] at p;cases p;exact QK _ _
   rw[ir] at hi;rw[è,ir,à (decide_eq_true (by omega)),Ç p,uq E.1 (by omega),ð (by omega) (by omega),ģ]
 ·rw[à (bne_iff_ne.2 h),if_pos h]
end
def Er {b:Ý} (h:Ğ b):(Ŋ b).length=(þ b).length:=by
 have g:∀i,((b.2.1.take i).mapIdx (ï b)).flatten.length=((b.2.1.take i).flatMap (ó b)).length:=by
  intro i
  induction i with
  |zero=>simp
  |succ i a =>
   rcases cW i b.2.1.length with hi|hi
   ·have e:b.2.1[i]?=some b.2.1[i]:=List.getElem?_eq_getElem hi;rw[kw _ e,take_succ e,List.flatMap_append,List.flatten_append,List.length_append,List.length_append,a];congr 1;unfold ï ó;simp only[List.flatMap_cons,List.flatMap_nil,List.append_nil,List.flatten_cons,List.flatten_nil,List.length_append];rw[Ξ _ _ (fun _=>rfl),Ξ _ _ (fun _=>rfl)];rfl
   ·rw[dv (by omega)] at a ⊢;exact a
 have d:=Vf (b:=b) b.2.2.2.2.1.length (Nat.le_refl _);have f:=g b.2.1.length;rw[List.take_length] at d f;unfold Ŋ þ;rw[List.length_append,List.length_append,f,d.1,d.2]
def OA {b:Ý}:∀s∈(b.2.1.mapIdx (ï b)).flatten,(s.1=1\/s.1=2)/\0<=s.2/\s.2<b.2.1.length:=by
 intro s hs;obtain⟨l,hl,a⟩:=List.mem_flatten.1 hs;obtain⟨i,hi,rfl⟩:=List.mem_iff_getElem.1 hl;rw[List.length_mapIdx] at hi;rw[List.getElem_mapIdx] at a;unfold ï at a;rcases List.mem_append.1 a with h|h
 ·simp at h; subst h; exact⟨.inl rfl,by dsimp only; omega,by dsimp only; omega⟩
 ·obtain⟨_,_,h⟩:=List.mem_flatMap.1 h;simp at h; subst h; exact⟨.inr rfl,by dsimp only; omega,by dsimp only; omega⟩
def O2 {l:y5 Cmp}:∀s∈(l.mapIdx fun i (_:Cmp)=>[((3:Int),(i:Int)),((3:Int),(i:Int))]).flatten,s.1=3/\0<=s.2/\s.2<l.length:=by
 intro s hs;obtain⟨m,hl,a⟩:=List.mem_flatten.1 hs;obtain⟨i,hi,rfl⟩:=List.mem_iff_getElem.1 hl;rw[List.length_mapIdx] at hi;rw[List.getElem_mapIdx] at a;simp at a; subst a;exact⟨rfl,by dsimp only; omega,by dsimp only; omega⟩
abbrev abK:Type:=Ý×(Int×Int)×Bool×Int×y5 Int
def YI:abK:=(Hk,(0,0),false,0,[])
def nj (L:y5 Lk):Int->Int->y5 Int->Int×Int×Bool
 |u,s,[]=>(u,s,true)
 |u,s,i::t=>if (L[i.toNat]?.getD (0,0,0)).1=u then nj L (L[i.toNat]?.getD (0,0,0)).2.1 (s+(L[i.toNat]?.getD (0,0,0)).2.2) t else(0,0,false)
def qJ (L:y5 Lk) (i:Int):Bool:=decide (i<0)||decide ((L.length:Int)<=i)
def gM (L:y5 Lk) (l:y5 Int):Int:=if 80<l.length then 2 else if l.any (qJ L) then 1 else 0
def ĕ (L:y5 Lk) (u v:Int) (l:y5 Int):Int×Int :=
 if gM L l≠0 then(0,gM L l) else if (nj L u 0 l).2.2=true/\(nj L u 0 l).1=v then((nj L u 0 l).2.1,0) else(0,8)
def ace (u:Int) (w:Int×Int×Bool):Int:=if w.2.2=true/\w.1=u/\w.2.1<0 then 0 else 8
def sh (L:y5 Lk) (l:y5 Int):Int :=
 if gM L l≠0 then gM L l else match l with
 |[]=>8
 |i::_=>ace (L[i.toNat]?.getD (0,0,0)).1 (nj L (L[i.toNat]?.getD (0,0,0)).1 0 l)
section
variable {L:y5 Lk} {N:Nat}
def JQ (N:Int) (e:L.length<=1000) (l:y5 Int):nV (N,L) l=some (gM L l):=by
 unfold nV Fx gM;dsimp only;rw[è]
 by_cases h:80<l.length
 ·rw[à (decide_eq_true (by omega)),if_pos h]
 ·rw[Ö (decide_eq_false (by omega)),if_neg h,<-è l];refine(jR l (qJ L) (fun z=>ifb (ige z 0) (some 1) (some 0)) (some 1) (some 0) (fun j=>by rw[show ige (j:Int) 0=true from decide_eq_true (by omega)]; rfl) (fun i a hi ha kn=>?_) (fun kn=>?_)).trans ?_
  ·try dsimp only
   unfold kX qJ;rw[Ó hi,Ç ha,Í hi (by omega),è,ģ,ģ]
   by_cases d:a<0
   ·simp[ilt,d]
   ·by_cases h2:(L.length:Int)<=a
    ·simp[ilt,ige,d,h2]
    ·simp[ilt,ige,d,h2]
  ·try dsimp only
   unfold kX;rw[á]
  ·cases l.any (qJ L)<;>rfl
def Ly {l:y5 Int} (h:gM L l=0):l.length<=80/\∀i∈l,0<=i/\i.toNat<L.length:=by
 unfold gM at h
 split at h
 ·omega
 ·rename_i a
  split at h
  ·omega
  ·rename_i h2;refine⟨by omega,fun i hi=>?_⟩;have:=dK.1 (dQ.2 h2) i hi;simp[qJ] at this;omega
def Vz (z:Η L N) (u:Int) {l:y5 Int} (h:gM L l=0):AO ((N:Int),L) u l=some (nj L u 0 l):=by
 obtain⟨hl,hi⟩:=Ly h;unfold AO Sk;dsimp only
 have:=qv (f:=fun(m:Int×Int×Int) g=>rl l (Û l) L m.1 m.2.1 m.2.2 (fun u8 q o=>g (u8,q,o)) (fun z5=>some (z5.1,z5.2.1,z5.2.2)) (fun z6=>some (z6.1,z6.2,true)))
  (F:=fun v=>some (nj L v.1 v.2.1 (l.drop v.2.2.toNat))) (fun v=>∃i:Nat,v.2.2=i/\i<=l.length/\(-(i*4503599627370496)<=v.2.1/\v.2.1<=i*4503599627370496)) (fun v=>l.length-v.2.2.toNat) (fun v r kn hk=>?_) (x:=(u,(0:Int),(0:Int))) ⟨0,rfl,by omega,by simp⟩
 ·exact this
 ·obtain⟨w,s,n⟩:=v;obtain⟨i,e,A,h2⟩:=r;dsimp only at e h2 hk ⊢;subst e;rw[Int.toNat_natCast] at hk ⊢;unfold rl;rcases Nat.lt_or_ge i l.length with d|d
  ·have ha:l[i]?=some l[i]:=List.getElem?_eq_getElem d;have hd:l.drop i=l[i]::l.drop (i+1):=List.drop_eq_getElem_cons d;rw[hd];have p:=hi l[i] (List.getElem_mem _);generalize l[i]=a at ha p;have j:L[a.toNat]?=some L[a.toNat]:=List.getElem?_eq_getElem p.2;have t:=z.most _ (List.mem_of_getElem? j);generalize L[a.toNat]=x at j t;rw[Ó d,Ç ha,kK p.1 j];unfold nj;rw[j];simp only[Option.getD_some]
   by_cases k:x.1=w
   ·rw[Ö (by rw[k]; exact bne_self_eq_false' _),if_pos k,ð (by omega) (by omega),Í d (by omega),hk _ ⟨i+1,by push_cast; rfl,d,by dsimp only; push_cast; omega⟩ (by simp; omega)];simp
   ·rw[à (bne_iff_ne.2 k),if_neg k]
  ·obtain rfl:i=l.length:=by omega
   rw[á,fI];rfl
def VA (a:Η L N):∀(l:y5 Int) (u s B:Int),-B<=s/\s<=B->-(B+l.length*4503599627370496)<=(nj L u s l).2.1/\(nj L u s l).2.1<=B+l.length*4503599627370496
 |[],u,s,B,h=>by simp[nj]; omega
 |i::t,u,s,B,h=>by
  unfold nj
  have e : -4503599627370496<=(L[i.toNat]?.getD (0,0,0)).2.2/\(L[i.toNat]?.getD (0,0,0)).2.2<=4503599627370496:=by
   cases d:L[i.toNat]? with
   |none=>simp
   |some x=>exact a.most x (ci d)
  split
  ·have:=VA a t (L[i.toNat]?.getD (0,0,0)).2.1 (s+(L[i.toNat]?.getD (0,0,0)).2.2) (B+4503599627370496) (by omega);rw[cj];push_cast;omega
  ·dsimp only;omega
def Bh (a:Η L N) {u v:Int} (e:0<=u/\u<N) (d:0<=v/\v<N) (l:y5 Int):iR ((N:Int),L) u v l=some (ĕ L u v l):=by
 have f:=a.len;unfold iR wF ĕ
 have j:(decide (0<=u)&&decide (u<(N:Int)))=true:=by simp[e.1,e.2]
 have g:(decide (0<=v)&&decide (v<(N:Int)))=true:=by simp[d.1,d.2]
 rw[mQ a,À,Ö (by rfl),EV,À,j,Ö (by rfl),EV,À,g,Ö (by rfl),JQ _ (by omega),À]
 by_cases h:gM L l=0
 ·rw[Ö (by rw[h]; rfl),if_neg (by simp[h]),Vz a u h,À]
  cases k:(nj L u 0 l).2.2 with
  |false=>rw[à (by rfl),if_neg (by simp)]
  |true =>
   rw[Ö (by rfl)]
   by_cases h2:(nj L u 0 l).1=v
   ·rw[Ö (by rw[h2]; exact bne_self_eq_false' _),if_pos ⟨rfl,h2⟩]
   ·rw[à (bne_iff_ne.2 h2),if_neg (fun h=>h2 h.2)]
 ·rw[à (bne_iff_ne.2 h),if_pos h]
def XM {ρ α:Type} (x:α) (t:y5 α) (f:α->x9 ρ):ă (x::t) (0:Int) f=f x:=rfl
def IG (f:Η L N) (l:y5 Int):lf ((N:Int),L) l=some (sh L l):=by
 have k:=f.len;unfold lf wE sh;rw[mQ f,À,Ö (by rfl),JQ _ (by omega),À]
 by_cases h:gM L l=0
 ·rw[Ö (by rw[h]; rfl),if_neg (by simp[h])]
  cases l with
  |nil=>rw[è]; rfl
  |cons i t =>
   have g:=(Ly h).2 i (by simp);have d:L[i.toNat]?=some L[i.toNat]:=List.getElem?_eq_getElem g.2;generalize L[i.toNat]=x at d;rw[è,Ö (beq_eq_false_iff_ne.2 (by simp; omega)),XM,kK g.1 d,Vz f x.1 h,À];dsimp only;rw[d];dsimp only[Option.getD_some];generalize nj L x.1 0 (i::t)=w;obtain⟨e,a,ok⟩:=w;unfold ace;dsimp only
   cases ok with
   |false=>rw[à (by rfl),if_neg (by simp)]
   |true =>
    rw[Ö (by rfl)]
    by_cases h2:e=x.1
    ·rw[Ö (by rw[h2]; exact bne_self_eq_false' _)]
     by_cases j:a<0
     ·rw[Ö (decide_eq_false (by omega)),if_pos ⟨rfl,h2,j⟩]
     ·rw[à (decide_eq_true (by omega)),if_neg (fun h=>j h.2.2)]
    ·rw[à (bne_iff_ne.2 h2),if_neg (fun h=>h2 h.2.1)]
 ·rw[à (bne_iff_ne.2 h),if_pos h]
end
def kS (c:abK):Int :=
 if ö c.1≠0 then ö c.1 else if ur c.1 c.2.1.1 c.2.1.2=0 then 5 else
 if c.2.2.1 then(if ĕ (þ c.1) 0 (ur c.1 c.2.1.1 c.2.1.2) c.2.2.2.2=(c.2.2.2.1,0) then 0 else 8)
 else(if ĕ (þ c.1) (ur c.1 c.2.1.1 c.2.1.2) 0 c.2.2.2.2=(-c.2.2.2.1,0) then 0 else 8)
def ob (c:abK):Int :=
 if ö c.1≠0 then ö c.1 else if c.2.1≠(0,0)\/c.2.2.1=true\/c.2.2.2.1≠0 then 1 else if sh (þ c.1) c.2.2.2.2=0 then 0 else 8
def Me (b:Ý) (c:abK):Bool×Int :=
 if ö b≠0 then(false,ö b) else
 if c.2.1=(0,0) then(if ob c≠0 then(false,ob c) else(yy c.1 b,0)) else(if kS c≠0 then(false,kS c) else(yy c.1 b,0))
def wr_neg {n:Int} (h:I64 n):PC (0-n)=if n = -9223372036854775808 then n else -n:=by
 have e:PC (0-n)=if (0-n) % 18446744073709551616>=9223372036854775808 then(0-n) % 18446744073709551616-18446744073709551616 else(0-n) % 18446744073709551616:=by
  simp[PC,IntKind.wrap,IntKind.bits,IntKind.signed]
 rw[e];unfold I64 at h
 split<;>split<;>omega
def C8 {c:abK} (hI:In c.1) (m:I64 c.2.2.2.1):jT c=some (kS c):=by
 unfold jT zH kS;rw[ix hI.size hI.num,À]
 by_cases d:ö c.1=0
 ·have g:=(ú c.1).1 d;rw[Ö (by simp[ine,d]),if_neg (show ¬(ö c.1≠0) from fun h=>h d),Hr hI,À,yd g,uN hI,À,lV g];dsimp only
  by_cases h0:ur c.1 c.2.1.1 c.2.1.2=0
  ·rw[if_pos h0,if_pos h0]; rfl
  ·have j:=g.sys;have q:=me c.1 c.2.1;have k:=iU c.1;rw[if_neg h0,if_neg h0,Ö (by rfl),show(((Õ c.1).length:Int)+1)=(((Õ c.1).length+1:Nat):Int) by push_cast; rfl];dsimp only;rw[show(∀f:Int->x9 Int,ck (0-c.2.2.2.1) f=f (PC (0-c.2.2.2.1))) from fun f=>rfl,wr_neg m]
   have a:∀(u v:Int) (t t':Int),(t'=t\/(t' = -9223372036854775808/\t=9223372036854775808))->(ifb (ine (ĕ (þ c.1) u v c.2.2.2.2).2 0) (some (8:Int)) (ifb (ine (ĕ (þ c.1) u v c.2.2.2.2).1 t') (some 8) (some 0)))=some (if ĕ (þ c.1) u v c.2.2.2.2=(t,0) then 0 else 8):=by
    intro u v t t' o
    have hb : -9000000000000000000<=(ĕ (þ c.1) u v c.2.2.2.2).1/\(ĕ (þ c.1) u v c.2.2.2.2).1<=9000000000000000000:=by
     unfold ĕ
     split
     ·simp
     ·rename_i hi
      split
      ·have:=VA j c.2.2.2.2 u 0 0 (by simp);have:=(Ly (by simpa using hi)).1;dsimp only;omega
      ·simp
    generalize ĕ (þ c.1) u v c.2.2.2.2=p at hb ⊢
    by_cases h2:p.2=0
    ·rw[Ö (by rw[h2]; rfl)]
     by_cases r:p.1=t'
     ·have:p=(t,0):=Prod.ext (by rcases o with h|h<;>omega) h2
      rw[Ö (by rw[r]; exact bne_self_eq_false' _),if_pos this]
     ·have:¬p=(t,0):=fun e=>by
       have w:p.1=t:=by rw[e]
       rcases o with h|h<;>omega
      rw[à (bne_iff_ne.2 r),if_neg this]
    ·have:¬p=(t,0):=fun e=>h2 (by rw[e]);rw[à (bne_iff_ne.2 h2),if_neg this]
   unfold I64 at m
   cases c.2.2.1 with
   |true =>
    rw[Ĭ,Bh j k q,À,a _ _ _ _ (.inl rfl)];rfl
   |false =>
    rw[ë,Bh j q k,À,a _ _ (-c.2.2.2.1) _ (by split<;>omega)]
    rfl
 ·rw[à (by simp[ine,d]),if_pos d]
def Mk {c:abK} (hI:In c.1):la c=some (ob c):=by
 unfold la wA ob;rw[ix hI.size hI.num,À]
 by_cases a:ö c.1=0
 ·have j:=(ú c.1).1 a;rw[Ö (by simp[ine,a]),if_neg (show ¬(ö c.1≠0) from fun h=>h a)]
  by_cases d:c.2.1=(0,0)
  ·have g:(!((ĺ c.2.1.1 0)&&((ĺ c.2.1.2 0)&&true)))=false:=by rw[d]; rfl
   rw[g,ë]
   cases h2:c.2.2.1 with
   |true=>rw[Ĭ,if_pos (.inr (.inl rfl))]
   |false =>
    rw[ë]
    by_cases f:c.2.2.2.1=0
    ·rw[Ö (by rw[f]; rfl),if_neg (by simp[d,f]),uN hI,À,lV j,show(((Õ c.1).length:Int)+1)=(((Õ c.1).length+1:Nat):Int) by push_cast; rfl];dsimp only;rw[IG j.sys,À]
     by_cases e:sh (þ c.1) c.2.2.2.2=0
     ·rw[Ö (by rw[e]; rfl),if_pos e]
     ·rw[à (bne_iff_ne.2 e),if_neg e]
    ·rw[à (bne_iff_ne.2 f),if_pos (.inr (.inr f))]
  ·have g:(!((ĺ c.2.1.1 0)&&((ĺ c.2.1.2 0)&&true)))=true:=by
    rw[Prod.ext_iff] at d;simp[ĺ];dsimp only at d;omega
   rw[g,Ĭ,if_pos (.inl d)]
 ·rw[à (by simp[ine,a]),if_pos a]
def Zh {b:Ý} {c:abK} (hb:In b) (hI:In c.1) (f:I64 c.2.2.2.1):vz b c=some (Me b c):=by
 unfold vz Jn Me;rw[ix hb.size hb.num,À]
 by_cases d:ö b=0
 ·rw[Ö (by simp[ine,d]),if_neg (show ¬(ö b≠0) from fun h=>h d)]
  by_cases a:c.2.1=(0,0)
  ·have e:((ĺ c.2.1.1 0)&&((ĺ c.2.1.2 0)&&true))=true:=by rw[a]; rfl
   rw[e,Ĭ,if_pos a,Mk hI,À]
   by_cases h2:ob c=0
   ·rw[Ö (by rw[h2]; rfl),if_neg (by simp[h2]),part_ok hI.size hb.size,À]
   ·rw[à (bne_iff_ne.2 h2),if_pos h2]
  ·have e:((ĺ c.2.1.1 0)&&((ĺ c.2.1.2 0)&&true))=false:=by
    rw[Prod.ext_iff] at a;simp[ĺ];dsimp only at a;omega
   rw[e,ë,if_neg a,C8 hI f,À]
   by_cases h2:kS c=0
   ·rw[Ö (by rw[h2]; rfl),if_neg (by simp[h2]),part_ok hI.size hb.size,À]
   ·rw[à (bne_iff_ne.2 h2),if_pos h2]
 ·rw[à (by simp[ine,d]),if_pos d]
def Zl {l m:y5 Int} (hn:l.length<=1000000):mK l m=some (decide (l=m)):=by
 unfold mK zb;rw[è,è]
 by_cases hl:l.length=m.length
 ·rw[Ö (by simp[ine,hl])];refine fe (jt l (fun i a=>if m[i]?=some a then none else some false) some (some true) (fun i a hi ha kn=>?_) (fun kn=>?_)) ?_
  ·try dsimp only
   unfold iW;have d:m[i]?=some m[i]:=List.getElem?_eq_getElem (by omega);rw[Ó hi,Ç ha,Ç d,Í hi (by omega),d,ģ]
   by_cases h:a=m[i]
   ·simp[ine,h]
   ·have h':¬m[i]=a:=fun e=>h e.symm;simp[ine,h,h']
  ·try dsimp only
   unfold iW;rw[á]
  ·cases h:Ŕ (fun i a=>if m[i]?=some a then none else some false) 0 l with
   |none=>simp[yn hl h]
   |some b =>
    obtain⟨f,h2⟩:=ym h;rw[f,decide_eq_false h2]
 ·rw[à (bne_iff_ne.2 (by omega)),decide_eq_false (fun e=>hl (by rw[e]))]
section
variable {b:Ý} {ids:y5 Int}
def Ğ.distinct (h:Ğ b):b.2.2.2.2.1.Pairwise fun a c=>a.1≠c.1:=by
 rw[List.pairwise_iff_getElem];intro i j hi f g k;have e:=h.compares j _ (List.getElem?_eq_getElem f);unfold lm at e
 have d:(b.2.2.2.2.1.take j).any (fun x=>x.1==b.2.2.2.2.1[j].1)=true:=by
  rw[dY];exact⟨b.2.2.2.2.1[i],cm.2 ⟨i,by rw[cw]; omega,by rw[eF]⟩,by simp[k]⟩
 rw[d] at e
 (repeat' split at e)<;>first|omega|simp_all
def X0 {α β:Type} (f g:α->y5 β):∀l:y5 α,(∀a∈l,(f a).length<=(g a).length)->(l.flatMap f).length<=(l.flatMap g).length
 |[],_=>bX _
 |a::l,h=>by
  rw[cH,cH,b7,b7];have:=h a (by simp);have:=X0 f g l fun c d=>h c (by simp[d]);omega
def lt_len:∀{x y:y5 Int},x.Pairwise (·<·)->(∀a∈x,a∈y)->x.length<=y.length:=by
 intro x y d h;exact(List.Nodup.length_le_of_subset (d.imp fun h=>by omega) h)
end
def Pl {l m:y5 (Int×Int)} (hn:l.length<=1000000):iQ l m=some (decide (l=m)):=by
 unfold iQ wq;rw[è,è]
 by_cases hl:l.length=m.length
 ·rw[Ö (by simp[ine,hl])];refine fe (jt l (fun i a=>if m[i]?=some a then none else some false) some (some true) (fun i a hi ha kn=>?_) (fun kn=>?_)) ?_
  ·try dsimp only
   unfold ij;have f:m[i]?=some m[i]:=List.getElem?_eq_getElem (by omega);rw[Ó hi,Ç ha,Ç f,Í hi (by omega),f,ģ]
   have e:(!(ĺ a.1 m[i].1&&(ĺ a.2 m[i].2&&true)))=decide (¬(m[i]=a)):=by
    rw[eI];simp only[ĺ,fM,dE,gd,decide_eq_false_iff_not,decide_eq_true_eq];constructor
    ·intro h e; rw[e] at h; simp at h
    ·intro h
     by_cases d:a.1=m[i].1
     ·by_cases h2:a.2=m[i].2
      ·exact absurd (Prod.ext d h2).symm h
      ·exact .inr h2
     ·exact .inl d
   rw[e]
   by_cases h:m[i]=a
   ·simp[h]
   ·simp[h]
  ·try dsimp only
   unfold ij;rw[á]
  ·cases h:Ŕ (fun i a=>if m[i]?=some a then none else some false) 0 l with
   |none=>simp[yn hl h]
   |some b =>
    obtain⟨d,h2⟩:=ym h;simp[d,h2]
 ·rw[à (by simp[ine]; omega)];have:l≠m:=fun e=>hl (by rw[e]);simp[this]
def Rc {l m:y5 Int} (hn:l.length<=1000000):ip l m=some (decide (l=m)):=by
 unfold ip yZ;rw[è,è]
 by_cases hl:l.length=m.length
 ·rw[Ö (by simp[ine,hl])];refine fe (jt l (fun i a=>if m[i]?=some a then none else some false) some (some true) (fun i a hi ha kn=>?_) (fun kn=>?_)) ?_
  ·try dsimp only
   unfold iV;have d:m[i]?=some m[i]:=List.getElem?_eq_getElem (by omega);rw[Ó hi,Ç ha,Ç d,Í hi (by omega),d,ģ]
   by_cases h:a=m[i]
   ·simp[ine,h]
   ·have h':¬m[i]=a:=fun e=>h e.symm;simp[ine,h,h']
  ·try dsimp only
   unfold iV;rw[á]
  ·cases h:Ŕ (fun i a=>if m[i]?=some a then none else some false) 0 l with
   |none=>simp[yn hl h]
   |some b =>
    obtain⟨f,h2⟩:=ym h;simp[f,h2]
 ·rw[à (by simp[ine]; omega)];have:l≠m:=fun e=>hl (by rw[e]);simp[this]
def Az {ρ α:Type} (l:y5 α) (K:x9 ρ) {f:Int->(Int->x9 ρ)->x9 ρ} (h:∀(i:Nat) (a:α),i<l.length->l[i]?=some a->∀kn,f i kn=kn ((i:Int)+1)) (hn:∀kn,f l.length kn=K):Î f 0=K:=by
 refine fe (Δ l (fun _=>false) (fun _=>K) K (fun i a hi ha kn=>by rw[h i a hi ha kn]; rfl) hn) ?_;rw[df.2 (by simp)]
def IF {l:y5 (Int×Int)} (hn:l.length<=1000000):iQ l l=some true:=by rw[Pl hn]; simp
def Bf {l:y5 Int} (hn:l.length<=1000000):ip l l=some true:=by rw[Rc hn]; simp
def DK {c:Cmp} (d:c.2.2.1.length<=1000) (a:c.2.2.2.1.length<=1000):iZ c c=some true:=by
 unfold iZ sn;rw[Bf (by omega),À,Bf (by omega),À];simp[ieq,ĺ]
def Zj {b:Ý} (hs:j7 b):AJ b b=some true:=by
 have g:=hs.gauges; have h2:=hs.uses; have f:=hs.loans; have e:=hs.compares; have d:=hs.looks;unfold AJ NG;rw[Ö (by simp[ĺ]),Ö (show ine (Û b.2.1) (Û b.2.1)=false by simp[ine]),Ö (show ine (Û b.2.2.1) (Û b.2.2.1)=false by simp[ine]),Ö (show ine (Û b.2.2.2.1) (Û b.2.2.2.1)=false by simp[ine]),Ö (show ine (Û b.2.2.2.2.1) (Û b.2.2.2.2.1)=false by simp[ine])];refine Az b.2.1 _ (fun i a hi ha kn=>?_) (fun kn=>?_)
 ·try dsimp only
  unfold ov;rw[Ó hi,Ç ha,Ç ha,Í hi (by omega)];simp[ĺ]
 ·try dsimp only
  unfold ov;rw[á];dsimp only;refine Az b.2.2.1 _ (fun i a hi ha kn=>?_) (fun kn=>?_)
  ·try dsimp only
   unfold ou;rw[Ó hi,Ç ha,Ç ha,Í hi (by omega)];simp[ĺ]
  ·try dsimp only
   unfold ou;rw[á];dsimp only;refine Az b.2.2.2.1 _ (fun i a hi ha kn=>?_) (fun kn=>?_)
   ·try dsimp only
    unfold ot;rw[Ó hi,Ç ha,Ç ha,Í hi (by omega)];simp[ĺ]
   ·try dsimp only
    unfold ot;rw[á];dsimp only;refine Az b.2.2.2.2.1 _ (fun i a hi ha kn=>?_) (fun kn=>?_)
    ·try dsimp only
     unfold oq;have hp:=hs.piles a (List.mem_of_getElem? ha);rw[Ó hi,Ç ha,Ç ha,DK hp.1 hp.2,À,Í hi (by omega)];rfl
    ·try dsimp only
     unfold oq;rw[á];dsimp only;rw[IF (by omega),À]
end Go.Proofs.ZzM
end

noncomputable section
namespace Go.Proofs.ZzM
open Go Go.Am
variable {ρ:Type}
def VH (t:BL) (a b:Nat):(Lib.trimSuffix ((t.take b).drop a) [10]).length<=t.length:=by
 have:=Kh ((t.take b).drop a) [10];rw[eV,cw] at this;omega
def ZN {α:Type} (l:y5 α):l.take l.length=l:=f6
def VT {γ:Type} {K:StP->x9 γ} {t:BL} (w:t.length<=100000) (e:∀p:Nat×Nat×Nat,(∀x∈t,x.toNat<128)->p=nlF t 0 (0,0,0)->p.1<=p.2.1/\p.2.1<=t.length) (g:∀a:Nat,(∀x∈t,x.toNat<128)->a=(nlF t 0 (0,0,0)).1->(t.take a).length<=60000) (f:(∀x∈t,x.toNat<128)\/t.length<=60000) {R:Nat->Nat->γ} (rest:∀(a b:Nat) (c q:Int),a<=b->b<=t.length->(t.take a).length<=60000->K ((a:Int),(b:Int),c,ofL t,q)=some (R a b)) :
 ∃a b:Nat,a<=b/\b<=t.length/\Î (pF K) ((0:Int),(0:Int),(0:Int),ofL t,(0:Int))=some (R a b)/\((∀x∈t,x.toNat<128)->a=(nlF t 0 (0,0,0)).1/\b=(nlF t 0 (0,0,0)).2.1):=by
 have d:((0:Int),(0:Int),(0:Int),ofL t,(0:Int))=(((0:Nat):Int),((0:Nat):Int),((0:Nat):Int),ofL t,((0:Nat):Int)):=rfl
 by_cases hl:∀x∈t,x.toNat<128
 ·obtain⟨r,o⟩:=e _ hl rfl;refine⟨_,_,r,o,D6 (t.length+1) fun m u=>?_,fun _=>⟨rfl,rfl⟩⟩;rw[d];refine(TV (by omega) hl t 0 (0,0,0) rfl (by simp) m (by omega)).trans ?_;exact rest _ _ _ _ r o (g _ hl rfl)
 ·have j:t.length<=60000:=f.resolve_left hl;obtain⟨a,b,c,q,k,h2,v⟩:=TW (K:=K) (show t.length<=1000000 by omega) t.length 0 0 0 0 (by omega) (bX _) (bX _) (bX _) (cG _);refine⟨a,b,k,h2,D6 (t.length+1) fun m u=>?_,fun h=>absurd h hl⟩;rw[d];refine(v m (by omega)).trans ?_;exact rest _ _ _ _ k h2 (by simp; omega)
def Zk {t:BL} (E:t.length<=100000) (e:∀p:Nat×Nat×Nat,(∀x∈t,x.toNat<128)->p=nlF t 0 (0,0,0)->p.1<=p.2.1/\p.2.1<=t.length) (z:∀a:Nat,(∀x∈t,x.toNat<128)->a=(nlF t 0 (0,0,0)).1->(t.take a).length<=60000) (v:(∀x∈t,x.toNat<128)\/t.length<=60000) :
 ∃a b:Nat,a<=b/\b<=t.length/\AM (ofL t)=some (I6 t a b)/\((∀x∈t,x.toNat<128)->a=(nlF t 0 (0,0,0)).1/\b=(nlF t 0 (0,0,0)).2.1):=by
 show ∃a b:Nat,a<=b/\b<=t.length/\zF (ofL t) some=some (I6 t a b)/\_;unfold zF;refine VT E e z v (R:=I6 t) fun a b c q M hb O=>?_;dsimp only;unfold I6
 by_cases h0:a=0
 ·rw[à (by simp[ieq,h0]),if_pos h0]; rfl
 rw[Ö (by simp[ieq,h0]),if_neg h0,ô,Į (by simp[ile]; omega),cp,cp,Ρ,Ρ,Ρ,Ρ];have mk1:ByteArray.mk #[99,101,114,116,32]=ofL [99,101,114,116,32]:=rfl;have o:ByteArray.mk #[99,104,97,105,110]=ofL [99,104,97,105,110]:=rfl;have m:ByteArray.mk #[117,112,112,101,114]=ofL [117,112,112,101,114]:=rfl;have r:[ByteArray.mk #[],ByteArray.mk #[],ByteArray.mk #[],ByteArray.mk #[],ByteArray.mk #[]]=([[],[],[],[],[]]:y5 BL).map ofL:=rfl;rw[mk1,o,m,mk_10,mk_32,r,C7 _ _ (by simp; omega),À]
 by_cases j:((t.take t.length).drop a).take 5=[99,101,114,116,32]
 case neg=>rw[if_pos j,à (by simpa using j)]; rfl
 rw[if_neg (by simpa using j),Ö (by simpa using j),Į (by simp[ile]; omega),C7 _ _ (by simp; omega),À]
 by_cases h2:((t.take t.length).drop b).take 5=[99,104,97,105,110]
 case neg=>rw[if_pos h2,à (by simpa using h2)]; rfl
 rw[if_neg (by simpa using h2),Ö (by simpa using h2),Į (by simp[ile]; omega)];rw[show(List.drop 0 (t.take a))=t.take a from rfl,adU O,À]
 cases F:MW (t.take a) with
 |none=>rw[à (by rfl)]; rfl
 |some k =>
 have A:=(IZ F).1;dsimp only;rw[Ö (by rfl),Į (by simp[ile]; omega),Ra _ _ (by simp; omega),À,MF _ _ (by have:=VH t a b; omega),À];have K:=Yu (Lib.trimSuffix ((t.take b).drop a) [10])
 have D:(Lib.trimSuffix ((t.take b).drop a) [10]).length<=100000:=by have:=VH t a b; omega
 have J:=Yu (Lib.trimSuffix ((t.take t.length).drop b) [10])
 have C:(Lib.trimSuffix ((t.take t.length).drop b) [10]).length<=100000:=by have:=VH t b t.length; omega
 have u:∀w∈iF t a b,w.length<=1000000:=fun w d=>by
  unfold iF at d;rcases List.mem_append.1 d with d|d
  ·have:=A0 32 _ _ w d; simp at this; omega
  ·simp at d; subst d; simp
 have I:6<=(iF t a b).length/\(iF t a b).length<=100006:=by unfold iF; simp; omega
 rw[Ò (by simp only[dg,cj,cz]; omega),Am.iff_true,<-fu];rw[show(O1 32 (Lib.trimSuffix ((t.take b).drop a) [10])++[[],[],[],[],[]])=iF t a b from rfl,Ew _ (by omega) u,À,Lw (c:=(1:Int)) 1 rfl (by omega),Lw (c:=(2:Int)) 2 rfl (by omega),Į (by simp[ilt,ē]; omega)];rw[qU (a:=ofL ((iF t a b).getD 3 [])) (by rw[d9,fL,bY (by omega)]; rfl),Lw (c:=(4:Int)) 4 rfl (by omega),Į (by simp[ile]; omega),Ra _ _ (by simp; omega),À,MF _ _ (by omega),À];rw[Į (by rw[acP,dg]; simp only[ile,decide_eq_true_eq]; omega),dv (by simp),<-List.map_drop,Ew _ (by rw[eV]; omega) (fun w d=>by have:=A0 32 _ _ w (fJ d); simp only[cz] at this; omega),À,Ck];have hp:=Pm (c:=QT t a b k) (U5 A);rw[show QT t a b k=(k,(jC ((iF t a b).getD 1 []),jC ((iF t a b).getD 2 [])),decide ((iF t a b).getD 3 []=[117,112,112,101,114]),jC ((iF t a b).getD 4 []),A4 t b) from rfl] at hp ⊢;rw[if_neg (by simp[(ú k).2 A])] at hp;rw[show((O1 32 (Lib.trimSuffix ((t.take t.length).drop b) [10])).drop 1).map jC=A4 t b from rfl,hp,À]
 by_cases g:80<(A4 t b).length
 ·rw[if_pos g,if_pos (.inl g),à (by rfl)]; rfl
 ·rw[if_neg g,Ö (by rfl),Ck]
  by_cases f:jD (k,(jC ((iF t a b).getD 1 []),jC ((iF t a b).getD 2 [])),decide ((iF t a b).getD 3 []=[117,112,112,101,114]),jC ((iF t a b).getD 4 []),A4 t b)=t
  ·rw[if_neg (by rintro(h|h); exact g h; exact h f),Ö (by rw[decide_eq_true f]; rfl)]
  ·rw[if_pos (.inr f),à (by rw[decide_eq_false f]; rfl)]; rfl
def SM (n:Int):∀x∈Lib.itoa n,x.toNat<128:=fun x a=>by have:=JN n x a; omega
def acu {ws:y5 BL} (h:∀w∈ws,∀x∈w,x.toNat<128):∀x∈spL 32 ws,x.toNat<128:=by
 intro x a;unfold spL at a;obtain⟨v,d,a⟩:=List.mem_flatMap.1 a;rcases List.mem_cons.1 a with rfl|a
 ·decide
 ·exact h v d x a
def kV (ns:y5 Int):∀w∈ke ns,∀x∈w,x.toNat<128:=fun w a=>by
 obtain⟨n,_,rfl⟩:=cR.1 a;exact SM n
def Gb {w:BL} {ws:y5 BL} (d:∀x∈w,x.toNat<128) (h:∀w∈ws,∀x∈w,x.toNat<128):∀x∈rP w ws,x.toNat<128:=fun x a=>(b8.1 a).elim (d x) (acu h x)
def Rm {b:Ý}:∀p∈iv b,(∀x∈p.1,x.toNat<128)/\∀v∈p.2,∀x∈v,x.toNat<128:=by
 have a:∀w:BL,(w.all fun x=>decide (x.toNat<128))=true->∀x∈w,x.toNat<128:=fun w j x f=>of_decide_eq_true (List.all_eq_true.1 j x f);intro p hp;unfold iv at hp;simp only[List.mem_cons,List.mem_append,List.mem_map] at hp;rcases hp with rfl|⟨g,m,rfl⟩|⟨u,k,rfl⟩|⟨l,hl,rfl⟩|⟨d,hd,rfl⟩|⟨u,k,rfl⟩
 ·exact⟨a _ rfl,kV _⟩
 ·exact⟨a _ rfl,kV _⟩
 ·exact⟨a _ rfl,kV _⟩
 ·exact⟨a _ rfl,kV _⟩
 ·refine⟨a _ rfl,fun v e=>?_⟩;simp only[Yx,b8,b9] at e;rcases e with e|(rfl|e)|rfl|e
  ·exact kV _ v e
  ·exact a _ rfl
  ·exact kV _ v e
  ·exact a _ rfl
  ·exact kV _ v e
 ·exact⟨a _ rfl,kV _⟩
def VM (b:Ý):∀x∈Ľ b,x.toNat<128:=by
 intro x a;unfold Ľ at a;obtain⟨p,hp,a⟩:=List.mem_flatMap.1 a;rcases List.mem_append.1 a with a|a
 ·exact Gb (Rm p hp).1 (Rm p hp).2 x a
 ·simp at a; subst a; decide
def VY (u:Bool):∀x∈Bq u,x.toNat<128:=by cases u<;>decide
def YH (c:od):∀x∈s7 c,x.toNat<128:=by
 refine Gb (by decide) fun w a=>?_;unfold O7 at a;rcases List.mem_append.1 a with a|a
 ·exact kV _ w a
 ·simp only[b9,dM,or_false] at a;rcases a with rfl|rfl
  ·exact VY _
  ·exact SM _
def U3 (c:od):∀x∈qF c,x.toNat<128:=Gb (by decide) (kV _)
def Mz (c:od):∀x∈jD c,x.toNat<128:=by
 intro x a;unfold jD at a;simp only[List.mem_append,List.mem_singleton] at a;rcases a with a|(a|rfl)|a|rfl
 ·exact VM _ x a
 ·exact YH _ x a
 ·decide
 ·exact U3 _ x a
 ·decide
def Tq (c:od) (d:UInt8) (hd:d=10\/d=32):∀w∈O7 c,∀x∈w,x≠d:=by
 have hn:d.toNat≠45/\¬(48<=d.toNat/\d.toNat<=57):=by rcases hd with rfl|rfl<;>decide
 intro w a;unfold O7 at a;rcases List.mem_append.1 a with a|a
 ·exact Ž d hn _ w a
 ·simp only[b9,dM,or_false] at a;rcases a with rfl|rfl
  ·rcases hd with rfl|rfl<;>cases c.2.2.1<;>decide
  ·exact Ž d hn [c.2.2.2.1] _ (by simp)
def abP {c:UInt8} (e:c≠32) {ws:y5 BL} (h:∀w∈ws,∀x∈w,x≠c):∀x∈spL 32 ws,x≠c:=by
 intro x a;unfold spL at a;obtain⟨v,d,a⟩:=List.mem_flatMap.1 a;rcases List.mem_cons.1 a with rfl|a
 ·exact e.symm
 ·exact h v d x a
def wno:∀x∈([99,101,114,116]:BL),x≠10:=by decide
def wnc:∀x∈([99,104,97,105,110]:BL),x≠10:=by decide
def abf (c:od):∀x∈s7 c,x≠10:=fun x a=>(b8.1 a).elim (fun h=>wno x h) (abP (by decide) (Tq c 10 (.inl rfl)) x)
def YE (c:od):∀x∈qF c,x≠10:=fun x a=>(b8.1 a).elim (fun h=>wnc x h) (abP (by decide) (Ž 10 (by decide) _) x)
def ZM (c:od):nlF (jD c) 0 (0,0,0)=((Ľ c.1).length,(Ľ c.1).length+((s7 c).length+1),(jD c).length):=by
 unfold jD;rw[EX,EX,WS _ _ (YE c),WS _ _ (abf c)]
 obtain⟨a,b,e⟩:=Sf ((iv c.1).map jB) 0 (0,0,0) (by simp[iv]) (fun l hl=>by
  obtain⟨p,hp,rfl⟩:=cR.1 hl
  exact Oj hp)
 rw[Rv,e];simp only[b7,cj,cz]
 refine Prod.ext ?_ (Prod.ext ?_ ?_)<;>simp only<;>omega
def VL (b:Ý):0<(Ľ b).length:=by
 unfold Ľ iv;rw[List.flatMap_cons,List.length_append,List.length_append,List.length_cons];omega
def YF {c:od} (h:Vn c) (m:Ğ c.1) (hl:c.2.2.2.2.length<=80):I6 (jD c) (Ľ c.1).length ((Ľ c.1).length+((s7 c).length+1))=(c,0):=by
 have j:((jD c).take (jD c).length).drop (Ľ c.1).length=(s7 c++[10])++(qF c++[10]):=by
  rw[ZN]; unfold jD; exact List.drop_left
 have f:((jD c).take (jD c).length).drop ((Ľ c.1).length+((s7 c).length+1))=qF c++[10]:=by
  rw[<-eW,j];exact List.drop_left' (by simp)
 have p:(jD c).take (Ľ c.1).length=Ľ c.1:=by unfold jD; exact List.take_left
 have o:((jD c).take ((Ľ c.1).length+((s7 c).length+1))).drop (Ľ c.1).length=s7 c++[10]:=by
  unfold jD;rw[List.take_append,List.take_of_length_le (by omega),show(Ľ c.1).length+((s7 c).length+1)-(Ľ c.1).length=(s7 c++[10]).length by simp,List.take_left,List.drop_left]
 have k:iF (jD c) (Ľ c.1).length ((Ľ c.1).length+((s7 c).length+1))=([99,101,114,116]::O7 c)++[[],[],[],[],[]]:=by
  unfold iF;rw[o,PF];rw[show s7 c=[99,101,114,116]++spL 32 (O7 c) from rfl,GY 32 _ _ (by decide) (Tq c 32 (.inr rfl))]
 have e:A4 (jD c) ((Ľ c.1).length+((s7 c).length+1))=c.2.2.2.2:=by
  unfold A4;rw[f,PF,show qF c=[99,104,97,105,110]++spL 32 (ke c.2.2.2.2) from rfl,GY 32 _ _ (by decide) (Ž 32 (by decide) _)];rw[List.drop_succ_cons,List.drop_zero,List.map_map];exact(List.map_congr_left fun n hn=>nh (h.l n hn)).trans (List.map_id _)
 have a:QT (jD c) (Ľ c.1).length ((Ľ c.1).length+((s7 c).length+1)) c.1=c:=by
  unfold QT;rw[k,e];refine Prod.ext rfl (Prod.ext (Prod.ext ?_ ?_) (Prod.ext ?_ (Prod.ext ?_ rfl)))
  ·exact nh h.g
  ·exact nh h.d
  ·show decide (Bq c.2.2.1=[117,112,112,101,114])=c.2.2.1
   cases c.2.2.1<;>decide
  ·exact nh h.v
 unfold I6;have hp:=VL c.1;rw[if_neg (by omega),j,f,if_neg (by simp[s7,O7,rP,spL]),if_neg (by simp[qF,rP]),p,RH m];dsimp only;rw[e,a,if_neg (by rintro(h|h); omega; exact h rfl)]
def VK {c:od} (h:Vn c) (a:Ğ c.1) (hl:c.2.2.2.2.length<=80):(jD c).length<=70000:=by
 have hb:=En (a.prints.mono fun n hn=>hn.i64)
 have k:(qF c).length<=3000:=by
  have:=œ (w:=[99,104,97,105,110]) h.l; simp only[List.length_cons,List.length_nil] at this; unfold qF; omega
 have j:(U6 c).length<=100:=by
  show(rP [99,101,114,116] (ke [c.2.1.1,c.2.1.2])).length<=100;have:=œ (w:=[99,101,114,116]) (ns:=[c.2.1.1,c.2.1.2]) (by simp[h.g,h.d]); simp only[cj,cz] at this ⊢; omega
 have f:=vq h.v;have e:=ML c.2.2.1;unfold jD;rw[Tr];simp only[List.length_append,List.length_cons,List.length_nil];omega
def Rf {c:od} (h:Vn c) (d:Ğ c.1) (hl:c.2.2.2.2.length<=80):AM (ofL (jD c))=some (c,0):=by
 have hn:=ZM c;have e:=VK h d hl;have hb:=En (d.prints.mono fun n hn=>hn.i64)
 obtain⟨a,b,j,h2,g,f⟩:=Zk (t:=jD c) (by omega) (fun p _ hp=>by
  rw[hp,hn]; refine⟨by simp only; omega,?_⟩;show _<=(jD c).length
  unfold jD; simp only[List.length_append,List.length_cons,List.length_nil]; omega) (fun a _ ha=>by rw[ha,hn,List.length_take]; simp only; omega) (.inl (Mz c))
 obtain⟨rfl,rfl⟩:=f (Mz c);rw[g,hn];exact congrArg some (YF h d hl)
end Go.Proofs.ZzM
end

noncomputable section
namespace Go.Proofs.ZzM
open Go Go.Am
def Re {c:od} (hs:j7 c.1) (hl:c.2.2.2.2.length<=1000000):mJ c c=some true:=by
 unfold mJ yX;rw[Zj hs,À,Ĭ,à (by simp[ĺ]),à (by simp),à (by simp[ieq]),Zl hl,À];simp
def tj (b:Ý) (l:y5 Int):y5 (Int×Int):=l.map fun i=>(Ŋ b)[i.toNat]?.getD (0,0)
def TY {b:Ý} (e:Ğ b) (hn:∀g∈b.2.1,I64 g.2.2.2.2.1.1) {l:y5 Int} (hl:l.length<=1000) (hi:∀i∈l,0<=i/\i.toNat<(þ b).length):rV b l=some (tj b l):=by
 unfold rV Fg;rw[uN (e.inn hn),À,lV e];refine Ġ l (fun i=>tj b (l.take i)) _ rfl (fun i a d ha kn=>?_) (fun kn=>?_)
 ·try dsimp only
  unfold kW;have f:=hi a (List.mem_of_getElem? ha);have hs:(Ŋ b)[a.toNat]?=some ((Ŋ b)[a.toNat]'(by rw[Er e]; exact f.2)):=List.getElem?_eq_getElem _;generalize (Ŋ b)[a.toNat]'(by rw[Er e]; exact f.2)=x at hs
  have j:(tj b (l.take i)).length<=1000:=by unfold tj; rw[List.length_map,List.length_take]; omega
  rw[Ó d,Ç ha,kK f.1 hs,Į (show Ú ((tj b (l.take i)).length+[x].length)=true from Ò (show(tj b (l.take i)).length+1<=4294967296 by omega)),Í d (by omega),take_succ ha];unfold tj;rw[List.map_append,List.map_singleton,hs];rfl
 ·try dsimp only
  unfold kW;rw[á,List.take_length]
def src_ok {b:Ý}:∀s∈Ŋ b,Zi b s:=by
 intro s hs;unfold Ŋ at hs;rcases List.mem_append.1 hs with h|h
 ·have:=OA s h; exact .inl this
 ·have:=O2 s h; exact .inr this
def ZU {b:Ý} (e:Ğ b) {l:y5 Int} (hi:∀i∈l,0<=i/\i.toNat<(þ b).length):∀s∈tj b l,Zi b s:=by
 intro s hs;obtain⟨i,f,rfl⟩:=cR.1 hs;have d:=hi i f;have a:(Ŋ b)[i.toNat]?=some ((Ŋ b)[i.toNat]'(by rw[Er e]; exact d.2)):=bY _;rw[a];exact src_ok _ (fh _)
section
variable {L:y5 Lk} {N:Nat}
def B5 (R:Nat->y5 Int) (good:Int->Bool):∀(k:Nat) (u a:Int) (out:y5 Int),(∀i∈out,0<=i/\i.toNat<L.length)->(∀i∈kO L R good k u a out,0<=i/\i.toNat<L.length)/\(kO L R good k u a out).length<=out.length+k
 |0,u,a,out,h=>⟨h,by simp[kO]⟩
 |k+1,u,a,out,h=>by
  unfold kO
  cases hn:EY L (R k) good u a with
  |none =>
   have:=B5 R good k u a out h;exact⟨this.1,by have:=this.2; dsimp only; omega⟩
  |some i =>
   have hi:i<L.length:=by
    unfold EY at hn;exact(List.findIdx?_eq_some_iff_getElem.1 hn).1
   have:=B5 R good k (L[i]?.getD (0,0,0)).2.1 (a+(L[i]?.getD (0,0,0)).2.2) (out++[(i:Int)]) (fun j e=>by
    rcases b8.1 e with d|d
    ·exact h j d
    ·simp at d; subst d; simp; exact hi)
   exact⟨this.1,by have:=this.2; simp at this; dsimp only; omega⟩
def O5 (N:Nat) (u v:Int):(∀i∈(xm L N u v).1,0<=i/\i.toNat<L.length)/\(xm L N u v).1.length<=N:=by
 unfold xm
 split
 ·simp
 ·cases h:(jX L N v N).findIdx? (fun x=>gv x u==(lY L N u v).1) with
  |none=>simp
  |some k =>
   have hk:=(List.findIdx?_eq_some_iff_getElem.1 h).1;rw[ir] at hk;have:=B5 (L:=L) (exL L N v) (fun n=>ieq n (lY L N u v).1) k u 0 [] (by simp);exact⟨this.1,by have:=this.2; simp at this; dsimp only; omega⟩
end
def sQ (B:Ý) (n:Int×Int) (upper:Bool):y5 Int :=
 if upper then(xm (þ B) ((Õ B).length+1) 0 (ur B n.1 n.2)).1 else(xm (þ B) ((Õ B).length+1) (ur B n.1 n.2) 0).1
def ln (B:Ý) (n:Int×Int) (upper:Bool):Ý:=A2 B (tj B (sQ B n upper)) [n]
def A5 (B:Ý) (n:Int×Int) (upper:Bool):abK:=(ln B n upper,n,upper,(if upper then(ivR B n).2 else(ivR B n).1),sQ (ln B n upper) n upper)
def vN (b:Ý) (n:Int×Int) (upper:Bool):abK×Int :=
 if (iw b [n]).2≠0 then(YI,(iw b [n]).2) else
 if ö (ln (iw b [n]).1 n upper)≠0 then(YI,ö (ln (iw b [n]).1 n upper)) else
 if ŷ (þ (ln (iw b [n]).1 n upper)) ((Õ (ln (iw b [n]).1 n upper)).length+1) then(A5 (iw b [n]).1 n upper,0) else(YI,9)
def U4 {ρ:Type}:@pn ρ=@Β ρ:=rfl
def WF {ρ:Type} (K:x9 ρ):Î (fun(d:Int) a=>pm (0:Int) d (fun e=>a e) (fun _=>K)) (0:Int)=K:=by
 refine gL (fun x=>x=0) (fun _=>0) (fun x f=>.inl fun kn=>?_) rfl;rw[f];rfl
def Rn {B:Ý} (h:Ğ B) (hn:∀g∈B.2.1,I64 g.2.2.2.2.1.1) (n:Int×Int) (upper:Bool):jU (B,Vr B) n upper=some (sQ B n upper):=by
 unfold jU zI sQ;rw[Zc h hn,À,show(B,Vr B).2=Vr B from rfl,Kj]
 cases upper with
 |true=>rw[Ĭ,TL h.sys (iU B) (me B n),À]; rfl
 |false=>rw[ë,TL h.sys (me B n) (iU B),À]; rfl
def J5 {B:Ý} (h:Ğ B) (n:Int×Int) (upper:Bool):(∀i∈sQ B n upper,0<=i/\i.toNat<(þ B).length)/\(sQ B n upper).length<=60:=by
 have a:=h.sys.n60;unfold sQ
 split
 ·have:=O5 (L:=þ B) ((Õ B).length+1) 0 (ur B n.1 n.2);exact⟨this.1,by have:=this.2; omega⟩
 ·have:=O5 (L:=þ B) ((Õ B).length+1) (ur B n.1 n.2) 0;exact⟨this.1,by have:=this.2; omega⟩
def Ge (w:y5 Int):∀(l:y5 Cmp) (i:Nat),∀c∈pu w i l,c∈l
 |[],i,c,h=>by simp[pu] at h
 |a::l,i,c,h=>by
  simp only[pu] at h
  split at h
  ·rcases b9.1 h with h|h
   ·rw[h]; simp
   ·exact eE _ (Ge w l (i+1) c h)
  ·exact eE _ (Ge w l (i+1) c h)
def aca {b:Ý} (h:In b) (ss:y5 (Int×Int)) {looks:y5 (Int×Int)} (hl:looks.length<=1000):In (A2 b ss looks):=by
 obtain⟨hs,hn⟩:=h;have k:=hs.gauges; have j:=hs.uses; have f:=hs.loans; have e:=hs.compares;unfold A2;refine⟨⟨?_,?_,?_,?_,hl,fun c d=>hs.piles c (Ge _ _ _ c d)⟩,fun g a=>hn g (List.mem_filter.1 a).1⟩
 ·exact cg (dm _ _) k
 ·exact cg (dm _ _) j
 ·exact cg (dm _ _) f
 ·exact cg (Gg _ _ _) e
def Vq {b:Ý} (hI:In b) (n:Int×Int) (upper:Bool):rX b n upper=some (vN b n upper):=by
 unfold rX xI vN;rw[U4];refine(Sb hI (ns:=[n]) (by simp) (fun e=>some (YI,e)) (fun e k=>by rw[Į (by simp[ine,k])]; rfl) (fun z k=>by rw[Į (by simp[ine,k])]; rfl) (fun _ _ _=>rfl)).trans ?_
 split
 ·rfl
 ·rename_i e;have a:=(yK hI (by simpa using e)).1;dsimp only;generalize (iw b [n]).1=B at a ⊢;have g:=J5 a.good n upper;have d:In (ln B n upper):=aca (a.good.inn a.num) _ (by simp)
  rw[QH,show((((Õ B).length:Int)+1,þ B):Sys)=Vr B from rfl,Rn a.good a.num,À,TY a.good a.num (by omega) g.1,À,
   ab9 a.good.size (by unfold tj; rw[List.length_map]; omega) (by simp) (ZU a.good g.1),À,show A2 B (tj B (sQ B n upper)) [n]=ln B n upper from rfl,ix d.size d.num,À]
  by_cases f:ö (ln B n upper)=0
  ·have j:=(ú _).1 f;rw[Ö (by simp[ine,f]),if_neg (show ¬(ö (ln B n upper)≠0) from fun h=>h f)];refine(WF _).trans ?_;rw[uN d,À,lV j,Ö (by rfl)];dsimp only;rw[show((((Õ (ln B n upper)).length:Int)+1,þ (ln B n upper)):Sys)=Vr (ln B n upper) from rfl,Kj (ln B n upper),Bg j.sys,À]
   cases m:ŷ (þ (ln B n upper)) ((Õ (ln B n upper)).length+1) with
   |false=>rw[if_neg (by simp)]; rfl
   |true =>
    rw[if_pos rfl,<-Kj (ln B n upper),Ö (by rfl),JL a,À,Rn j d.num,À]
    cases upper with
    |true=>rw[Ĭ,AF a,À]; rfl
    |false=>rfl
  ·rw[à (by simp[ine,f]),if_pos f,à (by simp[ine,f])];rfl
section
variable {L:y5 Lk} {N:Nat} {x y H G:Int}
def aaW (h:Η L N) (f:Be L N) (d:ŷ L N=true) {s t:Int} (hs:0<=s/\s<N) (a:0<=t/\t<N):∃vs,Wl L (fun u=>u=s) vs t (dst L N s t):=by
 have h2:=h.n60;obtain⟨p,hp⟩:=(Ţ h.links (by omega)).1 d;obtain⟨vs,e⟩:=(ι h.links (by omega) hp hs).att t a.1 a.2 (OS h f d hs a);exact⟨vs,ES.1 e⟩
def Ya (h:Η L N) (e:ŷ L N=true) {s t d:Int} (hs:0<=s/\s<N) {vs:y5 Int} (a:Wl L (fun u=>u=s) vs t d):dst L N s t<=d:=by
 have h2:=h.n60;obtain⟨p,hp⟩:=(Ţ h.links (by omega)).1 e;exact(ι h.links (by omega) hp hs).low t vs d (ES.2 a)
end
inductive Wk (L:List Lk) (to:Int):Nat->Int->Int->Prop
 |nil:Wk L to 0 to 0
 |step {k:Nat} {v w m d:Int}:(v,w,m)∈L->Wk L to k w d->Wk L to (k+1) v (m+d)
section
variable {L:y5 Lk} {N:Nat}
def Wk.snoc {u v m:Int} (hl:(u,v,m)∈L):∀{k:Nat} {s d:Int},Wk L u k s d->Wk L v (k+1) s (d+m):=by
 intro k s d h
 induction h with
 |nil =>
  have:=Wk.step hl (Wk.nil (L:=L) (to:=v))
  have e:m+0=0+m:=by omega
  rw[e] at this;exact this
 | @step k a w f d g h2 ih =>
  have:=Wk.step g ih
  have e:f+(d+m)=f+d+m:=by omega
  rw[e] at this;exact this
def Wl.wk {S:Int->Prop} {vs:y5 Int} {t d:Int} (h:Wl L S vs t d):∃s,S s/\Wk L t vs.length s d:=by
 induction h with
 | @nil v a=>exact⟨v,a,.nil⟩
 | @step vs u v m d e h2 ih =>
  obtain⟨s,hs,h⟩:=ih;exact⟨s,hs,h.snoc h2⟩
def Wl.front {s w m:Int} (hl:(s,w,m)∈L) {vs:y5 Int} {t d:Int} (h:Wl L (fun u=>u=w) vs t d):Wl L (fun u=>u=s) (vs++[s]) t (m+d):=by
 induction h with
 | @nil v g =>
  have a:v=w:=g;subst a;have:=Wl.step (Wl.nil (L:=L) (S:=fun u=>u=s) rfl) hl
  have e:0+m=m+0:=by omega
  rw[e] at this;exact this
 | @step vs u v f d j h2 ih =>
  have:=Wl.step ih h2
  have e:m+d+f=m+(d+f):=by omega
  rw[e] at this;exact this
def Wk.wl {t:Int} {k:Nat} {s d:Int} (h:Wk L t k s d):∃vs,vs.length=k/\Wl L (fun u=>u=s) vs t d:=by
 induction h with
 |nil=>exact⟨[],rfl,.nil rfl⟩
 | @step k v w m d a h2 ih =>
  obtain⟨vs,e,h⟩:=ih;exact⟨vs++[v],by simp[e],h.front a⟩
def Wk.bd (a:Η L N) {t:Int} {k:Nat} {s d:Int} (h:Wk L t k s d) : -(k*4503599627370496)<=d/\d<=k*4503599627370496:=by
 induction h with
 |nil=>omega
 | @step k v w m d e h2 ih =>
  have:=a.most _ e;dsimp only at this;push_cast;omega
def QF {v:Int} (h0:0<=v) (a:v<N):gv (List.replicate N ň) v=ň:=by
 unfold gv;rw[List.getElem?_replicate,if_pos (by omega)];rfl
def aaB {B:Int} (d:B<=1100000000000000000) {x:y5 Int} (a:Lim B x) (v:Int):gv x v<=ň:=by
 by_cases h:gv x v=ň
 ·omega
 ·have:=a v h; unfold ň; omega
def GA (p:Η L N) {B:Int} (u:0<=B) (f:B<=1000000000000000000) {x:y5 Int} (r:Lim B x) {v:Int} (h0:0<=v) (E:v<N) :
 ∀(M:y5 Lk),(∀l∈M,l∈L)->∀y:y5 Int,y.length=N->Lim (B+4503599627370496) y ->
  gv (M.foldl (g8 x) y) v<=gv y v/\(∀w m,(v,w,m)∈M->gv x w≠ň->gv (M.foldl (g8 x) y) v<=m+gv x w) /\
  (gv (M.foldl (g8 x) y) v=gv y v\/∃w m,(v,w,m)∈M/\gv x w≠ň/\gv (M.foldl (g8 x) y) v=m+gv x w)
 |[],_,y,_,_=>⟨cZ _,fun _ _ h=>by simp at h,.inl rfl⟩
 |l::M,t,y,hl,q=>by
  rw[ej];have d:=t l (by simp);obtain⟨F,A,z⟩:=GA p u f r h0 E M (fun m o=>t m (by simp[o])) (g8 x y l) (by rw[Cb,hl]) (SH p u f r q hl d);have D:=p.inr l d;have C:=aaB (by omega) q
  -- the element behind one link
  have k:gv (g8 x y l) v<=gv y v/\(l.1=v->gv x l.2.1≠ň->gv (g8 x y l) v<=l.2.2+gv x l.2.1)/\(gv (g8 x y l) v=gv y v\/(l.1=v/\gv x l.2.1≠ň/\gv (g8 x y l) v=l.2.2+gv x l.2.1)):=by
   unfold g8
   by_cases j:gv x l.2.1=ň
   ·rw[if_pos j];exact⟨cZ _,fun _ h=>absurd j h,.inl rfl⟩
   ·rw[if_neg j,oU D.1.1 h0 (by omega)]
    by_cases g:v=l.1
    ·rw[if_pos g,g];refine⟨by omega,fun _ _=>by omega,?_⟩
     by_cases I:gv y l.1<=l.2.2+gv x l.2.1
     ·exact .inl (by omega)
     ·exact .inr ⟨rfl,j,by omega⟩
    ·rw[if_neg g];exact⟨cZ _,fun h=>absurd h.symm g,.inl rfl⟩
  obtain⟨k1,k2,k3⟩:=k;refine⟨by omega,fun w m o a=>?_,?_⟩
  ·rcases b9.1 o with h|h
   ·subst h;have:=k2 rfl a;dsimp only at this;omega
   ·exact A w m h a
  ·rcases z with h|⟨w,m,h,a,e⟩
   ·rcases k3 with h'|⟨h',a,e⟩
    ·exact .inl (h.trans h')
    ·refine .inr ⟨l.2.1,l.2.2,?_,a,h.trans e⟩;rw[<-h']; simp
   ·exact .inr ⟨w,m,by simp[h],a,e⟩
def LG (f:Η L N) {to:Int} (p:0<=to/\to<N):∀k:Nat,k<=200->∀v:Int,0<=v->v<N ->
 (gv (exL L N to k) v≠ň->Wk L to k v (gv (exL L N to k) v))/\∀d,Wk L to k v d->gv (exL L N to k) v<=d/\gv (exL L N to k) v≠ň
 |0,_,v,h0,j=>by
  unfold exL;rw[oU p.1 h0 (by simp; omega)]
  by_cases o:v=to
  ·subst o;rw[if_pos rfl];refine⟨fun _=>.nil,fun d hd=>?_⟩;cases hd;exact⟨cZ _,by decide⟩
  ·rw[if_neg o,QF h0 j];refine⟨fun h=>absurd rfl h,fun d hd=>?_⟩;cases hd;exact absurd rfl o
 |k+1,hk,v,h0,j=>by
  have g:=Gc f p k (by omega);obtain⟨I,u,t⟩:=GA f (B:=k*4503599627370496) (by omega) (by omega) g h0 j L (fun _ h=>h) (List.replicate N ň) (by simp) (Ln (by omega));have q:=LG f p k (by omega);unfold exL J0;refine⟨fun A=>?_,fun d hd=>?_⟩
  ·rcases t with h|⟨w,m,h,z,e⟩
   ·rw[QF h0 j] at h; exact absurd h A
   ·rw[e];have a:=(f.inr _ h).2;exact .step h ((q w a.1 a.2).1 z)
  ·have hb:=Wk.bd f hd
   cases hd with
   | @step E D w m d h h2 =>
    have a:=(f.inr _ h).2;obtain⟨F,r⟩:=(q w a.1 a.2).2 d h2;have:=u w m h r;refine⟨by omega,?_⟩
    have J:(m+d)<=1000000000000000000:=by push_cast at hb; omega
    intro C;rw[C] at this;unfold ň at this;omega
def aaT (g:Η L N) {to:Int} (o:0<=to/\to<N) {k:Nat} (hk:k+1<=200) {u:Int} (d:0<=u/\u<N) (f:gv (exL L N to (k+1)) u≠ň) :
 ∃w m,(u,w,m)∈L/\gv (exL L N to k) w≠ň/\gv (exL L N to (k+1)) u=m+gv (exL L N to k) w:=by
 have a:=Gc g o k (by omega);obtain⟨_,_,j⟩:=GA g (B:=k*4503599627370496) (by omega) (by omega) a d.1 d.2 L (fun _ h=>h) (List.replicate N ň) (by simp) (Ln (by omega));have e:exL L N to (k+1)=L.foldl (g8 (exL L N to k)) (List.replicate N ň):=rfl;rw[e] at f ⊢;rcases j with h|h
 ·rw[QF d.1 d.2] at h; exact absurd h f
 ·exact h
def Gy (p:Η L N) {to:Int} (o:0<=to/\to<N) (good:Int->Bool):∀(k:Nat),k<=200->∀(u a:Int) (out:y5 Int),0<=u->u<N->gv (exL L N to k) u≠ň->good (a+gv (exL L N to k) u)=true ->
 ∃q,kO L (exL L N to) good k u a out=out++q/\q.length=k/\(∀i∈q,qJ L i=false)/\∃s,nj L u a q=(to,s,true)/\good s=true
 |0,_,u,a,out,h0,v,t,f=>by
  have O:u=to:=by
   have g:=((LG p o 0 (by omega) u h0 v).1 t);generalize gv (exL L N to 0) u=y at g;cases g;rfl
  subst O
  have e:gv (exL L N u 0) u=0:=by
   unfold exL;rw[oU o.1 h0 (by simp; omega),if_pos rfl]
  rw[e,fS] at f;exact⟨[],by simp[kO],rfl,by simp,a,rfl,f⟩
 |k+1,hk,u,a,out,h0,v,t,f=>by
  obtain⟨w,m,hl,g,e⟩:=aaT p o hk ⟨h0,v⟩ t;unfold kO EY
  cases hn:L.findIdx? (fun l=>l.1==u&&(decide (gv (exL L N to k) l.2.1≠ň)&&good (a+l.2.2+gv (exL L N to k) l.2.1))) with
  |none =>
   have:=df.1 hn (u,w,m) hl;rw[e,<-Int.add_assoc] at f;simp[g,f] at this
  |some i =>
   obtain⟨hi,hp,_⟩:=List.findIdx?_eq_some_iff_getElem.1 hn;have d:L[i]?=some L[i]:=List.getElem?_eq_getElem hi;have A:=List.mem_of_getElem? d;generalize L[i]=x at hp d A;simp only[Bool.and_eq_true,beq_iff_eq,decide_eq_true_eq] at hp;obtain⟨M,K,J⟩:=hp;have z:=(p.inr x A).2;obtain⟨q,I,F,E,s,D,C⟩:=Gy p o good k (by omega) x.2.1 (a+x.2.2) (out++[(i:Int)]) z.1 z.2 K J;dsimp only;rw[d];simp only[Option.getD_some];refine⟨(i:Int)::q,by rw[I]; simp,by simp[F],fun j r=>?_,s,?_,C⟩
   ·rcases b9.1 r with rfl|r
    ·simp[qJ]; omega
    ·exact E j r
   ·unfold nj;rw[Int.toNat_natCast,d];simp only[Option.getD_some];rw[if_pos M];exact D
def Yc (a:Η L N) (z:Be L N) (f:ŷ L N=true) {u v:Int} (d:0<=u/\u<N) (q:0<=v/\v<N):∃k,k<=N/\gv (exL L N v k) u=dst L N u v:=by
 have hn:=a.n60;obtain⟨vs,j⟩:=aaW a z f d q;obtain⟨p,hp⟩:=(Ţ a.links (by omega)).1 f;obtain⟨e,F,o,h2,A⟩:=j.simple hp;have r:=Ya a f d o
 have hd:F=dst L N u v:=by omega
 subst hd;have t:=o.short a.inr (fun w (j:w=u)=>by rw[j]; exact d) A;obtain⟨s,hs,hk⟩:=o.wk;have m:s=u:=hs;subst m;obtain⟨E,D⟩:=LG a q e.length (by omega) s d.1 d.2;obtain⟨I,C⟩:=D _ hk;obtain⟨ws,_,g⟩:=(E C).wl;have:=Ya a f d g;exact⟨e.length,by omega,by omega⟩
def C1 (f:Η L N) (m:Be L N) (o:ŷ L N=true) {u v:Int} (a:0<=u/\u<N) (g:0<=v/\v<N):(xm L N u v).2=0/\ĕ L u v (xm L N u v).1=(dst L N u v,0):=by
 have hn:=f.n60
 have J:lY L N u v=(dst L N u v,0):=by rw[Kg f m a g,if_pos o]
 unfold xm;rw[J];dsimp only;rw[if_neg (by simp)];obtain⟨k,hk,I⟩:=Yc f m o a g
 cases A:(jX L N v N).findIdx? (fun x=>gv x u==dst L N u v) with
 |none =>
  have:=df.1 A (exL L N v k) (ci (qE hk));simp[I] at this
 |some j =>
  obtain⟨w,hp,_⟩:=cQ.1 A
  have r:j<=N:=by rw[ir] at w; omega
  have z:(jX L N v N)[j]?=some (jX L N v N)[j]:=bY w;rw[qE r] at z;rw[<-Option.some.inj z] at hp
  have e:gv (exL L N v j) u=dst L N u v:=by simpa using hp
  have p:gv (exL L N v j) u≠ň:=by rw[e]; exact OS f m o a g
  obtain⟨q,F,K,E,s,D,C⟩:=Gy f g (fun n=>ieq n (dst L N u v)) j (by omega) u 0 [] a.1 a.2 p (by rw[e,Int.zero_add]; simp[ieq]);dsimp only;rw[F,List.nil_append];refine⟨rfl,?_⟩
  have d:s=dst L N u v:=by simpa[ieq] using C
  have hb:q.any (qJ L)=false:=by
   rw[dK]
   exact fun i hi=>by rw[E i hi]; simp
  have t:gM L q=0:=by
   unfold gM;rw[if_neg (by omega),hb];rfl
  unfold ĕ;rw[t,if_neg (by simp),D];dsimp only;rw[if_pos ⟨rfl,rfl⟩,d]
end
section
variable {B:Ý} (h:acl B)
include h
theorem aaV {v:Int} (a:0<=v/\v<((Õ B).length+1:Nat)):(-4503599627370496<=Mn B 0 v/\Mn B 0 v<=4503599627370496)/\(-4503599627370496<=Mn B v 0/\Mn B v 0<=4503599627370496):=by
 have e:Mn B 0 v<=4503599627370496:=Vh h.good.sys h.good.tied h.op a.1 a.2;have d:Mn B v 0<=4503599627370496:=Vg h.good.sys h.good.tied h.op a.1 a.2;have a3 : -(Mn B v 0)<=Mn B 0 v:=GS h.good.sys h.good.tied h.op a (iU B);omega
end
theorem nM (id f t:Int):∀l:y5 vW,ù id f t l=ù id f t (l.filter fun x=>x.1==id)
 |[]=>rfl
 |x::l=>by
  have a:=nM id f t l
  by_cases h:x.1=id
  ·rw[List.filter_cons_of_pos (by simp[h])];simp only[ù,a]
  ·rw[List.filter_cons_of_neg (by simp[h]),<-a];simp only[ù,h,false_and,if_false,Int.zero_add]
theorem Li {id f t:Int} {x y:y5 vW} (h:x.Perm y):ù id f t x=ù id f t y:=by
 induction h with
 |nil=>rfl
 |cons a _ d=>simp only[ù,d]
 |swap a b l=>simp only[ù]; omega
 |trans _ _ e h2=>rw[e,h2]
theorem F7 {b:Ý} (h:Ğ b) (id:Int):(b.2.2.2.1.filter fun x=>x.1==id).Nodup:=by
 have hp:b.2.2.2.1.Pairwise fun x y=>x≠y:=by
  rw[List.pairwise_iff_getElem];intro i j hi a f e;have hl:=h.loans j _ (List.getElem?_eq_getElem a);have k:=(vl h (List.getElem_mem a)).1;unfold DE at hl
  split at hl
  ·omega
  split at hl
  ·omega
  split at hl
  ·rename_i d;simp only[bne_iff_ne,ne_eq] at d;exact d hl
  split at hl
  ·omega
  rename_i g
  have:=dK.1 (dQ.2 g) b.2.2.2.1[i] (by
   rw[cm]
   exact⟨i,by rw[cw]; omega,by rw[eF]⟩)
  rw[e] at this;simp at this;omega
 exact(hp.filter _)
section
variable {s b:Ý} (hs:Ğ s) (hb:Ğ b) (hp:yy s b=true)
include hs hb hp
theorem uY:(∀c∈s.2.2.2.2.1,c∈b.2.2.2.2.1)/\s.1=b.1/\(∀g∈s.2.1,g∈b.2.1)/\(∀u∈s.2.2.1,u.1∈xa s->u∈b.2.2.1)/\(∀u∈b.2.2.1,u.1∈xa s->u∈s.2.2.1)/\(∀u∈s.2.2.2.1,u.1∈xa s->u∈b.2.2.2.1)/\(∀u∈b.2.2.2.1,u.1∈xa s->u∈s.2.2.2.1):=by
 unfold yy jy at hp;simp only[Bool.and_eq_true,List.all_eq_true,Bool.or_eq_true,Bool.not_eq_true',decide_eq_true_eq,D0,Bool.not_true,Bool.false_eq_true,false_or] at hp;obtain⟨r,h2,p,o,m,k,j⟩:=hp
 have q:∀{x:Int},x∈xa s->¬(xa s).contains x=false:=fun f e=>by simp[f] at e
 exact⟨r,h2,p,fun u a d=>(o u a).resolve_left (q d),fun u a d=>(m u a).resolve_left (q d),fun u a d=>(k u a).resolve_left (q d),fun u a d=>(j u a).resolve_left (q d)⟩
theorem Nb {g:é} (k:g∈s.2.1) (f t:Int):iN s g f t=iN b g f t:=by
 obtain⟨_,_,A,v,p,o,m⟩:=uY hs hb hp;have j:g.1∈xa s:=List.mem_map.2 ⟨g,k,rfl⟩;unfold iN
 have z:ù g.1 f t s.2.2.2.1=ù g.1 f t b.2.2.2.1:=by
  rw[nM,nM g.1 f t b.2.2.2.1];refine Li ((List.perm_ext_iff_of_nodup (F7 hs g.1) (F7 hb g.1)).2 fun l=>?_);simp only[du,beq_iff_eq];exact⟨fun⟨a,e⟩=>⟨o l a (by rw[e]; exact j),e⟩,fun⟨a,e⟩=>⟨m l a (by rw[e]; exact j),e⟩⟩
 have w:Ml (ť s g.1 f t)=Ml (ť b g.1 f t):=by
  refine Ze (Ex _) (Ex _) fun d=>?_;rw[oh,oh];unfold ť;simp only[List.mem_map,List.mem_filter,Bool.and_eq_true,beq_iff_eq];exact⟨fun⟨u,⟨a,e,q⟩,r⟩=>⟨u,⟨v u a (by rw[e]; exact j),e,q⟩,r⟩,fun⟨u,⟨a,e,q⟩,r⟩=>⟨u,⟨p u a (by rw[e]; exact j),e,q⟩,r⟩⟩
 rw[z,w]
theorem Ub {g:é} (a:g∈s.2.1):gY b g.1=gY s g.1:=by
 obtain⟨_,_,d,_⟩:=uY hs hb hp;rw[ζ hb.ids (d g a),ζ hs.ids a]
theorem Na {c:Cmp} (j:c∈s.2.2.2.2.1) {p:y5 Int} (a:∀x∈p,x∈c.2.2.1++c.2.2.2.1):Bt (iz s) p=Bt (iz b) p:=by
 unfold Bt
 cases p with
 |nil=>rfl
 |cons x t =>
  obtain⟨⟨g,f,_⟩,_⟩:=hs.pile j (a x (by simp));obtain⟨d,e⟩:=ţ f;dsimp only;rw[ii hs.ids,ii hb.ids,<-e,Ub hs hb hp d]
theorem M9 {c:Cmp} (d:c∈s.2.2.2.2.1):pH s c=pH b c:=by
 obtain⟨_,e,_⟩:=uY hs hb hp
 have g:mf s c=mf b c:=by
  unfold mf rateK;rw[Na hs hb hp d (fun x a=>List.mem_append.2 (.inl (iO.1 a).1)),Na hs hb hp d (fun x a=>List.mem_append.2 (.inr (iO.1 a).1))]
 have f:qA s c=qA b c:=by
  unfold qA;rw[e]
 unfold pH;rw[g,f]
theorem Wq {f:Int->Int->Int} {z:Int} (a:Pp b f z):Pp s f z:=by
 obtain⟨q,r,p,_⟩:=uY hs hb hp;refine⟨fun g j=>?_,fun c k=>?_⟩
 ·have:=a.gauge g (p g j);exact⟨this.hi,this.lo,this.down,fun d e o m=>by rw[Nb hs hb hp j]; exact this.loss d e o m⟩
 ·rw[M9 hs hb hp k];exact a.cmp c (q c k)
end
structure SubB (s b:Ý):Prop where
 film:s.1=b.1
 gauges:s.2.1.Sublist b.2.1
 uses:s.2.2.1.Sublist b.2.2.1
 usesId:∀u∈s.2.2.1,u.1∈xa s
 usesAll:∀u∈b.2.2.1,u.1∈xa s->u∈s.2.2.1
 loans:s.2.2.2.1.Sublist b.2.2.2.1
 loansId:∀l∈s.2.2.2.1,l.1∈xa s
 loansAll:∀l∈b.2.2.2.1,l.1∈xa s->l∈s.2.2.2.1
 cmps:s.2.2.2.2.1.Sublist b.2.2.2.2.1
 cmpsId:∀c∈s.2.2.2.2.1,∀x∈c.2.2.1++c.2.2.2.1,x∈xa s
 looks:∀n∈s.2.2.2.2.2,kr b n/\n.1∈xa s
 nK:s.2.2.2.2.2.length<=10
theorem aaL {α β:Type} (f:α->y5 β) {l m:y5 α} (h:l.Sublist m):(l.flatMap f).length<=(m.flatMap f).length:=by
 induction h with
 |slnil=>exact bX _
 |cons a _ d=>rw[cH,b7]; omega
 |cons_cons a _ d=>rw[cH,cH,b7,b7]; omega
def MeetL (x l:vW):Prop:=x.1=l.1/\x.2.1.1<=l.2.1.2/\l.2.1.1<=x.2.1.2
theorem Ğ.apartL {b:Ý} (h:Ğ b):b.2.2.2.1.Pairwise fun x l=>¬MeetL x l:=by
 rw[cM];rintro i j hi e f ⟨m,k,g⟩;have d:=h.loans j _ (bY e)
 have a:(b.2.2.2.1.take j).any (fun x=>x.1==b.2.2.2.1[j].1&&(decide (x.2.1.1<=b.2.2.2.1[j].2.1.2)&&decide (b.2.2.2.1[j].2.1.1<=x.2.1.2)))=true:=by
  rw[dY];exact⟨b.2.2.2.1[i],cm.2 ⟨i,by rw[cw]; omega,by rw[eF]⟩,by simp[m,k,g]⟩
 unfold DE at d;rw[a] at d
 (repeat' split at d)<;>first|omega|simp_all
section
variable {s b:Ý} (h:SubB s b) (hb:Ğ b)
include h hb
theorem PL:s.2.1.Pairwise fun a b=>a.1<b.1:=hb.ids.sublist h.gauges
theorem VQ {id:Int} (a:id∈xa s):gY s id=gY b id:=by
 obtain⟨g,d,rfl⟩:=cR.1 a;rw[ζ (PL h hb) d,ζ hb.ids (h.gauges.subset d)]
theorem DN {id:Int} (a:id∈xa s) (d:Int):jc (iz s) id d=jc (iz b) id d:=by
 unfold jc;rw[ii (PL h hb),ii hb.ids,VQ h hb a]
theorem VO {id d:Int} (a:id∈xa s):Rp (iz s) id d=Rp (iz b) id d:=by
 unfold Rp;rw[DN h hb a]
theorem ZR {g:é} (j:g∈s.2.1):∀d∈ß s g,d∈ß b g:=by
 intro d hd;rcases lT.1 hd with e|⟨c,k,m,h2⟩|⟨n,hn,e,o⟩
 ·exact lT.2 (.inl e)
 ·exact lT.2 (.inr (.inl ⟨c,h.cmps.subset k,m,h2⟩))
 ·obtain⟨⟨g',a,p,f⟩,_⟩:=h.looks n hn;rw[UF hb (h.gauges.subset j) a (by omega),<-o];exact f
theorem VP:(Õ s).length<=(Õ b).length:=by
 have e:(Õ s).length<=(s.2.1.flatMap fun g=>(ß b g).map fun d=>((g.1,d):Int×Int)).length:=X0 _ _ _ fun g a=>by
  rw[dg,dg];exact lt_len (uI _ g) (ZR h hb a)
 exact cg e (aaL _ h.gauges)
theorem ZS {id d:Int} (ha:vV b id d=none):vV s id d=none:=by
 unfold vV at ha ⊢;rw[List.find?_eq_none] at ha ⊢;exact fun l hl=>ha l (h.loans.subset hl)
theorem ZQ:Ğ s:=by
 have n1:=h.gauges.length_le; have Y:=h.uses.length_le; have X:=h.loans.length_le; have W:=h.cmps.length_le;have m1:=hb.nG; have m2:=hb.nU; have m3:=hb.nL; have Z:=hb.nC;have hn:=VP h hb;have hN:=hb.nodes; have hL:=hb.links;refine⟨by rw[h.film]; exact hb.film,by omega,by omega,by omega,by omega,h.nK,fun g q=>hb.gauge g (h.gauges.subset q),PL h hb,fun u A=>?_,fun i l hl=>?_,fun i c O=>?_,fun n D=>?_,by omega,by omega⟩
 ·rw[VO h hb (h.usesId u A)];exact hb.uses u (h.uses.subset A)
 ·have v:=List.mem_of_getElem? hl;obtain⟨j,I,E⟩:=List.mem_iff_getElem.1 (h.loans.subset v);have o:=hb.loans j l (by rw[List.getElem?_eq_getElem I,E]);unfold DE at o ⊢;rw[DN h hb (h.loansId l v)]
  split at o
  ·omega
  rename_i C
  split at o
  ·omega
  rename_i V
  split at o
  ·rename_i z; simp only[bne_iff_ne,ne_eq] at z; exact absurd o z
  rename_i z
  split at o
  ·omega
  split at o
  ·omega
  rename_i U;rw[if_neg C,if_neg V,if_neg z,if_neg ?_,if_neg ?_]
  ·intro a;obtain⟨u,A,r⟩:=dY.1 a;exact U (dY.2 ⟨u,h.uses.subset A,r⟩)
  ·intro a;obtain⟨x,d,r⟩:=dY.1 a;obtain⟨k,hk,f⟩:=cm.1 d;rw[cw] at hk;rw[eF] at f;obtain⟨hi,J⟩:=ca.1 hl;have hp:=cM.1 (hb.apartL.sublist h.loans) k i (by omega) hi (by omega);rw[f,J] at hp;simp only[bZ,beq_iff_eq,decide_eq_true_eq] at r;exact hp ⟨r.1,r.2.1,r.2.2⟩
 ·have w:=List.mem_of_getElem? O;have m:=h.cmps.subset w;have p:=h.cmpsId c w;obtain⟨j,I,F⟩:=List.mem_iff_getElem.1 m;have o:=hb.compares j c (by rw[List.getElem?_eq_getElem I,F]);have t:=hb.pilesOf m;unfold lm at o ⊢
  split at o
  ·omega
  rename_i C;rw[if_neg C,if_neg ?_]
  ·unfold yr at t ⊢
   have S:(c.2.2.1++c.2.2.2.1).any (fun id=>jc (iz s) id c.2.1==5)=false:=by
    rw[List.any_eq_false];intro x d;rw[DN h hb (p x d)];obtain⟨⟨g,q,hd⟩,_⟩:=hb.pile m d;unfold jc;rw[ii hb.ids,q];dsimp only;rw[if_neg (by omega)];simp
   have T:(c.2.2.1++c.2.2.2.1).any (fun id=>jc (iz s) id c.2.1==4)=false:=by
    rw[List.any_eq_false];intro x d;rw[DN h hb (p x d)];obtain⟨⟨g,q,hd⟩,_⟩:=hb.pile m d;unfold jc;rw[ii hb.ids,q];dsimp only;rw[if_neg (by omega)];simp
   have R:(c.2.2.1++c.2.2.2.1).any (fun id=>(vV s id c.2.1).isSome)=false:=by
    rw[dK];intro x d;rw[ZS h hb (hb.pile m d).2];simp
   rw[S,T,R];simp only[cA,if_false]
   (repeat' split at t)<;>first|omega|(rename_i w1 Q P; rw[if_neg w1,if_neg Q,if_neg P])|skip
  ·intro a;obtain⟨x,d,r⟩:=dY.1 a;obtain⟨k,hk,f⟩:=cm.1 d;rw[cw] at hk;rw[eF] at f;obtain⟨hi,K⟩:=ca.1 O;have hp:=cM.1 (hb.distinct.sublist h.cmps) k i (by omega) hi (by omega);rw[f,K] at hp;exact hp (eq_of_beq r)
 ·obtain⟨⟨g,q,e,hd⟩,p⟩:=h.looks n D;rw[VO h hb p];have M:=hb.day q hd;unfold Rp jc;rw[ii hb.ids,<-e,ζ hb.ids q];dsimp only;rw[if_neg (by simp[Yl,inP]; omega),if_neg (by omega)]
theorem ZO:yy s b=true:=by
 unfold yy jy;simp only[Bool.and_eq_true,List.all_eq_true,Bool.or_eq_true,Bool.not_eq_true',decide_eq_true_eq,D0,Bool.not_true,Bool.false_eq_true,false_or]
 have q:∀{x:Int},x∈xa s\/(xa s).contains x=false:=fun {x}=>by
  by_cases d:x∈xa s
  ·exact .inl d
  ·exact .inr (by simpa using d)
 exact⟨fun c f=>h.cmps.subset f,h.film,fun g e=>h.gauges.subset e,fun u a=>.inr (h.uses.subset a),fun u a=>(q (x:=u.1)).elim (fun d=>.inr (h.usesAll u a d)) .inl,
  fun u a=>.inr (h.loans.subset a),fun u a=>(q (x:=u.1)).elim (fun d=>.inr (h.loansAll u a d)) .inl⟩
end
theorem rQ (w:y5 Int):∀(l:y5 Cmp) (i:Nat),(pu w i l).Sublist l
 |[],_=>List.Sublist.slnil
 |c::t,i=>by
  unfold pu
  split
  ·exact(rQ w t (i+1)).cons_cons c
  ·exact(rQ w t (i+1)).cons c
theorem Gf {w:y5 Int} {c:Cmp}:∀{l:y5 Cmp} {i:Nat},c∈pu w i l↔∃j:Nat,l[j]?=some c/\((i+j:Nat):Int)∈w
 |[],i=>by simp[pu]
 |a::t,i=>by
  unfold pu;have k:=@Gf w c t (i+1)
  have e:(∃j:Nat,(a::t)[j]?=some c/\((i+j:Nat):Int)∈w)↔(a=c/\((i:Nat):Int)∈w)\/∃j:Nat,t[j]?=some c/\((i+1+j:Nat):Int)∈w:=by
   constructor
   ·rintro⟨j,d,h2⟩
    cases j with
    |zero=>exact .inl ⟨by simpa using d,by simpa using h2⟩
    |succ j=>exact .inr ⟨j,by simpa using d,by rw[show i+1+j=i+(j+1) by omega]; exact h2⟩
   ·rintro(⟨d,h2⟩|⟨j,d,h2⟩)
    ·exact⟨0,by simp[d],by simpa using h2⟩
    ·exact⟨j+1,by simpa using d,by rw[show i+(j+1)=i+1+j by omega]; exact h2⟩
  rw[e]
  split
  ·rename_i g;rw[b9,k]
   have f:((i:Nat):Int)∈w:=by simpa using g
   constructor
   ·rintro(d|d)
    ·exact .inl ⟨d.symm,f⟩
    ·exact .inr d
   ·rintro(d|d)
    ·exact .inl d.1.symm
    ·exact .inr d
  ·rename_i g;rw[k]
   have f:¬((i:Nat):Int)∈w:=by simpa using g
   exact⟨.inr,fun d=>d.elim (fun h2=>absurd h2.2 f) id⟩
section
variable {b:Ý} (hb:Ğ b) {ss looks:y5 (Int×Int)} (hss:∀s∈ss,Zi b s) (hlk:∀n∈looks,kr b n) (hk:looks.length<=10)
include hb
theorem Tj {x:Int} (d:x∈A1 b ss looks) (a:∃g∈b.2.1,g.1=x):x∈xa (A2 b ss looks):=by
 obtain⟨g,a,rfl⟩:=a;exact cR.2 ⟨g,du.2 ⟨a,by simpa using d⟩,rfl⟩
theorem Yv {x:Int} (a:x∈xa (A2 b ss looks)):x∈A1 b ss looks:=by
 obtain⟨g,d,rfl⟩:=cR.1 a;simpa using(du.1 d).2
include hlk hk
theorem QO:SubB (A2 b ss looks) b:=by
 refine⟨rfl,List.filter_sublist,List.filter_sublist,fun u m=>?_,fun u m d=>?_,List.filter_sublist,fun l hl=>?_,fun l hl d=>?_,rQ _ _ _,fun c w x o=>?_,fun n hn=>?_,hk⟩
 ·obtain⟨k,h2⟩:=du.1 m;obtain⟨_,g,a,_⟩:=El hb (hb.uses u k);exact Tj hb (by simpa using h2) ⟨g,ţ a⟩
 ·exact du.2 ⟨m,by simpa using Yv hb d⟩
 ·obtain⟨k,h2⟩:=du.1 hl;obtain⟨i,hi,e⟩:=cm.1 k;have f:=hb.loans i l (by rw[bY hi,e])
  have v:jc (iz b) l.1 l.2.1.1=0:=by
   unfold DE at f
   split at f
   ·omega
   split at f
   ·omega
   split at f
   ·rename_i q; simp only[bne_iff_ne,ne_eq] at q; exact absurd f q
   ·rename_i q; simpa using q
  obtain⟨g,a,_⟩:=pQ hb v;exact Tj hb (by simpa using h2) ⟨g,ţ a⟩
 ·exact du.2 ⟨hl,by simpa using Yv hb d⟩
 ·obtain⟨j,r,p⟩:=Gf.1 (show c∈pu (vG ss) 0 b.2.2.2.2.1 from w);rw[Nat.zero_add] at p;obtain⟨q,t,e⟩:=List.mem_map.1 p;obtain⟨k,h2⟩:=List.mem_filter.1 t;obtain⟨⟨g,a,_⟩,_⟩:=hb.pile (List.mem_of_getElem? r) o;refine Tj hb (List.mem_append.2 (.inl (List.mem_flatMap.2 ⟨q,k,?_⟩))) ⟨g,ţ a⟩;unfold tk;rw[if_pos (by simpa using h2),e,Int.toNat_natCast,r];exact o
 ·obtain⟨g,a,e,hd⟩:=hlk n hn;exact⟨⟨g,a,e,hd⟩,Tj hb (b8.2 (.inr (cR.2 ⟨n,hn,rfl⟩))) ⟨g,a,e⟩⟩
theorem Tk:Ğ (A2 b ss looks):=ZQ (QO hb hlk hk) hb
theorem Ti:yy (A2 b ss looks) b=true:=ZO (QO hb hlk hk) hb
theorem aa3:∀n∈looks,kr (A2 b ss looks) n:=by
 intro n hn;obtain⟨g,a,e,hd⟩:=hlk n hn;refine⟨g,du.2 ⟨a,?_⟩,e,lT.2 (.inr (.inr ⟨n,hn,e.symm,rfl⟩))⟩;simp only[gg];exact b8.2 (.inr (cR.2 ⟨n,hn,e.symm⟩))
end
theorem LD {α β γ:Type} (F:α->y5 β) (G:Nat->α->y5 γ):∀(l:y5 α) (k:Nat),(∀i a,l[i]?=some a->(F a).length=(G (k+i) a).length) ->
 ∀(n:Nat) (x:β) (y:γ),(l.flatMap F)[n]?=some x->((l.mapIdx fun i a=>G (k+i) a).flatten)[n]?=some y->∃i a,l[i]?=some a/\x∈F a/\y∈G (k+i) a
 |[],k,_,n,x,y,h,_=>by simp at h
 |a::t,k,hl,n,x,y,d,h2=>by
  rw[cH] at d;rw[List.mapIdx_cons,fD] at h2;have g:=hl 0 a (by simp);rcases cW n (F a).length with hn|hn
  ·rw[eh hn] at d;rw[eh (by rw[<-g]; exact hn)] at h2;exact⟨0,a,by simp,ci d,ci h2⟩
  ·rw[dZ hn] at d;rw[dZ (by rw[<-g]; exact hn),<-g] at h2
   have f:((t.mapIdx fun i a=>G (k+1+i) a).flatten)[n-(F a).length]?=some y:=by
    have e:(fun(i:Nat) (a:α)=>G (k+1+i) a)=fun i a=>G (k+(i+1)) a:=by
     funext i a; rw[show k+1+i=k+(i+1) by omega]
    rw[e];exact h2
   obtain⟨i,c,o,m,j⟩:=LD F G t (k+1) (fun i c p=>by
    have:=hl (i+1) c (by simpa using p);rw[show k+1+i=k+(i+1) by omega]
    exact this) _ x y d f
   exact⟨i+1,c,by simpa using o,m,by rw[show k+(i+1)=k+1+i by omega]; exact j⟩
theorem OB (b:Ý) (i:Nat) (g:é):(ó b g).length=(ï b i g).length:=by
 unfold ï ó;rw[List.length_append,List.length_append,Ξ _ _ (fun _=>rfl),Ξ _ _ (fun _=>rfl)];rfl
theorem aay {b:Ý} {n:Nat} {x:Lk} {y:Int×Int} (m:(þ b)[n]?=some x) (h2:(Ŋ b)[n]?=some y) :
 ((y.1=1\/y.1=2)/\∃g,b.2.1[y.2.toNat]?=some g/\x∈ó b g)\/(y.1=3/\∃c,b.2.2.2.2.1[y.2.toNat]?=some c/\x∈Ī b c/\y.2=((y.2.toNat:Nat):Int)):=by
 have d:((b.2.1.mapIdx (ï b)).flatten).length=(b.2.1.flatMap (ó b)).length:=by
  rw[List.length_flatten,List.length_flatMap];congr 1;refine List.ext_getElem (by simp) fun i p o=>?_;simp only[List.getElem_map,List.getElem_mapIdx];exact(OB b i _).symm
 unfold þ at m;unfold Ŋ at h2;rcases Nat.lt_or_ge n (b.2.1.flatMap (ó b)).length with hn|hn
 ·rw[eh hn] at m;rw[eh (by rw[d]; exact hn)] at h2;have r:=OA y (ci h2)
  have j:((b.2.1.mapIdx fun i a=>ï b (0+i) a).flatten)[n]?=some y:=by
   have e:(fun(i:Nat) (a:é)=>ï b (0+i) a)=ï b:=by funext i a; rw[cF]
   rw[e]; exact h2
  obtain⟨i,g,p,o,k⟩:=LD (ó b) (ï b) b.2.1 0 (fun i g _=>OB b _ g) n x y m j;rw[cF] at k
  have q:y.2=(i:Int):=by
   unfold ï at k;rcases List.mem_append.1 k with h|h
   ·simp at h; rw[h]
   ·obtain⟨_,_,h⟩:=cY.1 h;simp at h; rw[h]
  exact .inl ⟨r.1,g,by rw[q,cp]; exact p,o⟩
 ·rw[dZ hn] at m;rw[dZ (by rw[d]; exact hn),d] at h2;have r:=O2 y (ci h2)
  have j:((b.2.2.2.2.1.mapIdx fun i (a:Cmp)=>(fun(i:Nat) (_:Cmp)=>[((3:Int),(i:Int)),((3:Int),(i:Int))]) (0+i) a).flatten)[n-(b.2.1.flatMap (ó b)).length]?=some y:=by
   have e:(fun(i:Nat) (_:Cmp)=>[((3:Int),((0+i:Nat):Int)),((3:Int),((0+i:Nat):Int))])=fun(i:Nat) (_:Cmp)=>[((3:Int),(i:Int)),((3:Int),(i:Int))]:=by funext i _; rw[cF]
   exact(congrArg (fun f=>((b.2.2.2.2.1.mapIdx f).flatten)[n-(b.2.1.flatMap (ó b)).length]?) e).trans h2
  obtain⟨i,c,p,o,k⟩:=LD (Ī b) (fun(i:Nat) (_:Cmp)=>[((3:Int),(i:Int)),((3:Int),(i:Int))]) b.2.2.2.2.1 0 (fun i c _=>rfl) _ x y m j
  have q:y.2=(i:Int):=by simp at k; rw[k]
  exact .inr ⟨r.1,c,by rw[q,cp]; exact p,o,by rw[q,cp]⟩
section
variable {b:Ý} (hb:Ğ b) {l:y5 Int} (hl:∀i∈l,0<=i/\i.toNat<(þ b).length) {looks:y5 (Int×Int)} (hlk:∀n∈looks,kr b n) (hk:looks.length<=10)
include hb hl hlk hk
theorem Yt {f:Int->Int->Int} {z:Int} (w:Pp (A2 b (tj b l) looks) f z):∀i∈l,∀x,(þ b)[i.toNat]?=some x->Py b f z x.2.1<=Py b f z x.1+x.2.2:=by
 intro i hi x r;have hs:=Tk hb hlk hk (ss:=tj b l);have hp:=Ti hb hlk hk (ss:=tj b l);have v:=hl i hi;have a:(Ŋ b)[i.toNat]?=some ((Ŋ b)[i.toNat]'(by rw[Er hb]; exact v.2)):=bY _;generalize (Ŋ b)[i.toNat]'(by rw[Er hb]; exact v.2)=y at a;have j:y∈tj b l:=cR.2 ⟨i,hi,by rw[a]; rfl⟩;rcases aay r a with⟨m,g,t,k⟩|⟨m,c,A,k,e⟩
 ·have p:=ci t
  have o:g∈(A2 b (tj b l) looks).2.1:=by
   refine List.mem_filter.2 ⟨p,?_⟩;simp only[List.contains_iff_mem];refine List.mem_append.2 (.inl (List.mem_flatMap.2 ⟨y,j,?_⟩));unfold tk;rw[if_neg (by omega),t];simp
  have E:abI b f z g:=by
   have:=w.gauge g o;exact⟨this.hi,this.lo,this.down,fun d e D C=>by rw[<-Nb hs hb hp o]; exact this.loss d e D C⟩
  exact(rR hb t).2 (I0 hb p E) x k
 ·have u:=ci A
  have q:c∈(A2 b (tj b l) looks).2.2.2.2.1:=Gf.2 ⟨y.2.toNat,A,by
   rw[cF,<-e]
   exact cR.2 ⟨y,du.2 ⟨j,by simp[m]⟩,rfl⟩⟩
  have F:=w.cmp c q;rw[M9 hs hb hp q] at F;have h2:=MZ (f:=f) (z:=z) hb (c:=c) (fun x r=>Lq hb u r);unfold Ī at k;simp only[List.mem_cons,List.not_mem_nil,or_false] at k;rcases k with rfl|rfl
  ·dsimp only; omega
  ·dsimp only; omega
end
theorem Mo {L:y5 Lk} {p:Int->Int}:∀(l:y5 Int) (u s:Int),(∀i∈l,qJ L i=false)->(∀i∈l,∀x,L[i.toNat]?=some x->p x.2.1<=p x.1+x.2.2)->(nj L u s l).2.2=true->p (nj L u s l).1-p u<=(nj L u s l).2.1-s
 |[],u,s,_,_,_=>by unfold nj; dsimp only; omega
 |i::t,u,s,hi,hp,h=>by
  unfold nj at h ⊢;have h0:=hi i (by simp);simp only[qJ,Bool.or_eq_false_iff,decide_eq_false_iff_not] at h0;have e:L[i.toNat]?=some L[i.toNat]:=List.getElem?_eq_getElem (by omega);have f:=hp i (by simp) _ e;rw[e] at h ⊢;simp only[Option.getD_some] at h ⊢
  by_cases a:L[i.toNat].1=u
  ·rw[if_pos a] at h ⊢;have:=Mo t _ _ (fun j d=>hi j (by simp[d])) (fun j d=>hp j (by simp[d])) h;rw[a] at f;omega
  ·rw[if_neg a] at h;cases h
theorem C5 {L:y5 Lk} {i:Int}:qJ L i=false↔0<=i/\i.toNat<L.length:=by
 simp only[qJ,fG,decide_eq_false_iff_not];omega
theorem G4 {L:y5 Lk} {u v n:Int} {l:y5 Int} (h:ĕ L u v l=(n,0)):(∀i∈l,qJ L i=false)/\nj L u 0 l=(v,n,true):=by
 unfold ĕ at h
 by_cases a:gM L l=0
 ·rw[if_neg (by simp[a])] at h;have hi:=Ly a;refine⟨fun i d=>C5.2 (hi.2 i d),?_⟩
  split at h
  ·rename_i h2;simp only[Prod.mk.injEq,and_true] at h;exact Prod.ext h2.2 (Prod.ext h h2.1)
  ·simp at h
 ·rw[if_pos a] at h;simp only[Prod.mk.injEq] at h;exact absurd h.2 a
section
variable {B:Ý} (hR:acl B) {n:Int×Int} (hn:kr B n) (upper:Bool)
include hR hn
theorem yM:(∀m∈[n],kr B m):=fun m a=>by simp at a; subst a; exact hn
theorem I5:Ğ (ln B n upper):=Tk hR.good (yM hR hn) (by simp)
theorem I3:yy (ln B n upper) B=true:=Ti hR.good (yM hR hn) (by simp)
theorem I4:kr (ln B n upper) n:=aa3 hR.good (yM hR hn) (by simp) n (by simp)
theorem Bz {f:Int->Int->Int} {z:Int} (a:Pp B f z):Pp (ln B n upper) f z:=Wq (I5 hR hn upper) hR.good (I3 hR hn upper) a
theorem By:acl (ln B n upper):=by
 have d:=I5 hR hn upper;obtain⟨f,z,e⟩:=(Nr hR.good).1 hR.op;exact⟨d,(Nr d).2 ⟨f,z,Bz hR hn upper e⟩,fun g a=>hR.num g ((QO hR.good (yM hR hn) (by simp)).gauges.subset a)⟩
theorem O6 (d:Ý) (a:acl d) (f:kr d n):ĕ (þ d) (if upper then 0 else ur d n.1 n.2) (if upper then ur d n.1 n.2 else 0) (sQ d n upper)=(Mn d (if upper then 0 else ur d n.1 n.2) (if upper then ur d n.1 n.2 else 0),0):=by
 have e:=a.good.sys;have hi:=me d n;have h0:=iU d;unfold sQ Mn
 cases upper with
 |true=>exact(C1 e a.good.tied a.op h0 hi).2
 |false=>exact(C1 e a.good.tied a.op hi h0).2
theorem Wr:(if upper then(ivR (ln B n upper) n).2 else(ivR (ln B n upper) n).1)=(if upper then(ivR B n).2 else(ivR B n).1):=by
 have d:=By hR hn upper;have g:=I4 hR hn upper;have w:=(Lx hR.good).2 hn;obtain⟨q,t⟩:=G4 (O6 hR hn upper B hR hn);have hl:∀i∈sQ B n upper,0<=i/\i.toNat<(þ B).length:=fun i hi=>C5.1 (q i hi)
 have m:∀{f:Int->Int->Int} {z:Int},Pp (ln B n upper) f z->(upper=true->f n.1 n.2-z<=(ivR B n).2)/\(upper=false->(ivR B n).1<=f n.1 n.2-z):=by
  intro f z A;have j:=Yt hR.good hl (yM hR hn) (by simp) A;have a:=Mo (p:=Py B f z) (sQ B n upper) (if upper then 0 else ur B n.1 n.2) 0 q j (by rw[t]);rw[t] at a;dsimp only at a;have u:=RI hR f z hn;have h0:Py B f z 0=z:=tD f z;constructor
  ·rintro rfl;simp only[if_true] at a;rw[u,h0] at a;unfold ivR;dsimp only;omega
  ·rintro rfl;simp only[Bool.false_eq_true,if_false] at a;rw[u,h0] at a;unfold ivR;dsimp only;omega
 have v:=SL hR n;have o:=SL d n
 cases upper with
 |true =>
  simp only[if_true];obtain⟨f,z,r,e⟩:=aaG d g o (cZ _);have C:=(m r).1 rfl;obtain⟨D,z2,k,E⟩:=aaG hR hn v (cZ _);have h2:=iv_in d g (Bz hR hn true k);omega
 |false =>
  simp only[cA,if_false];obtain⟨f,z,r,e⟩:=aaG d g (cZ _) o;have C:=(m r).2 rfl;obtain⟨D,z2,k,E⟩:=aaG hR hn (cZ _) v;have h2:=iv_in d g (Bz hR hn false k);omega
theorem C2:kS (A5 B n upper)=0:=by
 have e:=By hR hn upper;have f:=I4 hR hn upper;have g:=(Lx e.good).2 f;have d:=O6 hR hn upper (ln B n upper) e f;have a:=Wr hR hn upper;unfold kS A5;dsimp only;rw[if_neg (by simp[(ú _).2 e.good]),if_neg g]
 cases upper with
 |true =>
  simp only[if_true] at d a ⊢;rw[d,<-a];unfold ivR;simp
 |false =>
  simp only[Bool.false_eq_true,if_false] at d a ⊢;rw[d,<-a];unfold ivR;simp
end
def MR:∀{ns:y5 (Int×Int)} {b:Ý},(Ŷ b ns).2=0->∀s:Ý,yy s (Ŷ b ns).1=yy s b
 |[],b,_,s=>rfl
 |n::t,b,e,s=>by
  unfold Ŷ at e ⊢
  split
  ·rename_i a; rw[if_pos a] at e; exact absurd e a
  ·rename_i a;rw[if_neg a] at e;rw[MR e s];unfold mr at a ⊢
   split
   ·rfl
   ·split
    ·rename_i h2 d; rw[if_neg h2,if_pos d] at a; exact absurd d (by simpa using a)
    ·rfl
end Go.Proofs.ZzM
end

noncomputable section
namespace Go.Proofs.ZzM
open Go Go.Am
variable {ρ:Type}
def RY {b:Ý} (hI:In b) {n:Int×Int} (K:I64 n.1) (hd:I64 n.2) {i:Int} (hi:i=0\/i=1) (kn:Int->x9 ρ) (I:Bool->x9 ρ) (k1:Unit->x9 ρ) :
 ς (ka b n).2 b.1.1 b.1.2 b.2.1 b.2.2.1 b.2.2.2.1 b.2.2.2.2.1 b.2.2.2.2.2 n.1 n.2 (ka b n).1.1 (ka b n).1.2 i kn I k1=kn (i+1):=by
 unfold ς
 rw[à (by rcases hi with rfl|rfl<;>rfl),show(((b.1.1,b.1.2),b.2.1,b.2.2.1,b.2.2.2.1,b.2.2.2.2.1,b.2.2.2.2.2):Ý)=b from rfl,show((n.1,n.2):Int×Int)=n from rfl,Vq hI,À]
 have v:ck (i+1) kn=kn (i+1):=ð (by omega) (by omega) kn;rw[v]
 by_cases p:(iw b [n]).2=0
 case neg =>
  have A:vN b n (ieq i 1)=(YI,(iw b [n]).2):=by unfold vN; rw[if_pos p]
  have z:ka b n=((0,0),(iw b [n]).2):=by unfold ka; rw[if_pos p]
  rw[A,z,Ö (by simp[ine]),à (bne_iff_ne.2 p)]
 have F:=Ue hI p;have k:=F.room;have a:=F.nodes n (by simp);have d:=yK hI p
 have o:∀s,yy s (iw b [n]).1=yy s b:=fun s=>by rw[d.2.1]; exact MR d.2.2.1 s
 have f:=By k a (ieq i 1)
 have A:vN b n (ieq i 1)=(A5 (iw b [n]).1 n (ieq i 1),0):=by
  unfold vN;rw[if_neg (by simp[p]),if_neg (by simp[(ú _).2 f.good]),if_pos f.op]
 have z:ka b n=(ivR (iw b [n]).1 n,0):=by unfold ka; rw[if_neg (by simp[p])]
 rw[A,z];have m:=I3 k a (ieq i 1);rw[o] at m;generalize (iw b [n]).1=B at k a f m;have J:=me B n;have M:=aaV k J;have q:=J5 f.good n (ieq i 1);have C:=f.good.sys.len;have hIx:In (A5 B n (ieq i 1)).1:=aca (k.good.inn k.num) _ (by simp)
 have j:I64 (A5 B n (ieq i 1)).2.2.2.1:=by
  unfold A5 I64;dsimp only
  split
  ·simp only[ivR]; omega
  ·simp only[ivR]; omega
 have O:(A5 B n (ieq i 1)).2.2.2.2.length<=60:=q.2;have E:Vn (A5 B n (ieq i 1)):=⟨hIx.fine,K,hd,j,fun x r=>by have:=q.1 x r; exact⟨by omega,by omega⟩⟩;have D:Ğ (A5 B n (ieq i 1)).1:=f.good
 have t:Me b (A5 B n (ieq i 1))=(true,0):=by
  unfold Me;rw[if_neg (by simp[(ú b).2 d.2.2.2]),if_neg,if_neg (by simp[C2 k a (ieq i 1)])]
  ·exact congrArg (·,(0:Int)) m
  ·intro e;obtain⟨g,u,w,_⟩:=a;have h2:=((B4 g).1 (k.good.gauge g u)).2.2.2.1.1;rw[show(A5 B n (ieq i 1)).2.1=n from rfl] at e;rw[e] at w;have w:g.1=0:=w;omega
 have hp:=Pm E;rw[if_neg (by simp[(ú _).2 D]),if_neg (by omega)] at hp;dsimp only;rw[Ö (by rfl),Ö (by rfl),Zh hI hIx j,À,hp,À,Rf E D (by omega),À,C8 hIx j,À,C2 k a (ieq i 1),Ö (by rfl),t,Ö (by rfl),Ö (by rfl),Ö (by rfl),Ö (by rfl),Re hIx.size (by omega),À,Ö (by rfl)];rcases hi with rfl|rfl
 ·rw[Ö (by rfl),à (by rfl),Ö (by simp[ine,A5,ieq])]
 ·rw[à (by rfl),Ö (by simp[ine,A5,ieq]),Ö (by rfl)]
def acL (a:rS=some true) {b:Ý} (hn:∀g∈b.2.1,I64 g.2.2.2.2.1.1) {n:Int×Int} (e:I64 n.1) (hd:I64 n.2):rU b n=some true:=by
 unfold rU yW;rw[few_ok,À,a];simp only[À]
 by_cases d:fewP b=true
 case neg=>rw[à (by simp[d])]
 rw[Ö (by simp[d])];have hI:In b:=⟨vw d,hn⟩;rw[Ri hI,À];refine D6 3 fun m j=>?_;obtain⟨m,rfl⟩:∃k,m=k+3:=⟨m-3,by omega⟩;refine(RY hI e hd (.inl rfl) _ some (fun _=>some true)).trans ?_;refine(RY hI e hd (i:=0+1) (.inr rfl) _ some (fun _=>some true)).trans ?_;rw[show ∀f:Int->(Int->x9 Bool)->x9 Bool,iter f (m+1) (0+1+1)=f (0+1+1) (iter f m) from fun _=>rfl];unfold ς;rw[Ö (by rfl)]
end Go.Proofs.ZzM
end
