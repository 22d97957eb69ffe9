/- lemmas -/
import Derived.Test.YtbiecdpaididoaaGreatDoorAmF
import Derived.Test.YtbiecdpaididoaaGreatDoorMdTA
import Derived.Test.YtbiecdpaididoaaGreatDoorAmC
import Derived.Laws.Strings
import Derived.Lib.SplitLaws
import Derived.Lib.AtoiAllCases
set_option linter.all false
noncomputable section
namespace Go.Am
section
variable {ρ:Type}
def ĉ {α β:Type} (e:Nat->α->Nm β):Nat->NO α->Nm β
 |_,[]=>none
 |i,a::t=>match e i a with
  |some b=>some b
  |none=>ĉ e (i+1) t
def Τ {α β:Type} (l:NO α) (e:Nat->α->Nm β) (g:β->Nm ρ) (d:Nm ρ) {f:Int->(Int->Nm ρ)->Nm ρ}
 (h:∀(i:Nat) (a:α),i<l.length->l[i]?=some a->∀c,f i c=match e i a with|some b=>g b|none=>c ((i:Int)+1))
 (j:∀c,f l.length c=d):Ó f 0=match ĉ e 0 l with|some b=>g b|none=>d:=by
 refine Uy l (fun i t=>match ĉ e i t with|some b=>g b|none=>d) j fun i a t hd hi ha c m=>?_;rw[h i a hi ha c,m,ĉ]
 cases e i a<;>rfl
def ĥ {α σ:Type} (l:NO α) (g:Nat->σ) (r:Nm ρ) {f:Int×σ->(Int×σ->Nm ρ)->Nm ρ} {s0:σ} (h0:g 0=s0)
 (h:∀(i:Nat) (a:α),i<l.length->l[i]?=some a->∀c,f (i,g i) c=c ((i:Int)+1,g (i+1)))
 (j:∀c,f (l.length,g l.length) c=r):Ó f (0,s0)=r:=by
 subst h0
 have d:∀s,(s=g 0)->Ó f (0,s)=r:=fun s e=>Jm l (fun _ _ _=>r) (fun i s=>s=g i) (fun s d c=>by rw[d]; exact j c) (fun i a t s hd hi ha hI c m=>by
  rw[hI,h i a hi ha c]; exact m _ rfl) e
 exact d _ rfl
def Ux {α σ:Type} (l:NO α) (g:Nat->σ) (r:Nm ρ) {f:Int×σ->(Int×σ->Nm ρ)->Nm ρ} {s0:σ} (P:Nat->Prop) (h0:g 0=s0) (o:P 0)
 (h:∀(i:Nat) (a:α),i<l.length->l[i]?=some a->P i->∀c,f (i,g i) c=r\/(P (i+1)/\f (i,g i) c=c ((i:Int)+1,g (i+1))))
 (m:P l.length->∀c,f (l.length,g l.length) c=r):Ó f (0,s0)=r:=by
 subst h0
 have d:∀s,(s=g 0/\P 0)->Ó f (0,s)=r:=fun s e=>Jm l (fun _ _ _=>r) (fun i s=>s=g i/\P i) (fun s d c=>by rw[d.1]; exact m d.2 c) (fun i a t s hd hi ha hI c n=>by
  rcases h i a hi ha hI.2 c with j|⟨j,h2⟩
  ·rw[hI.1,j]
  ·rw[hI.1,h2]; exact n _ ⟨rfl,j⟩) e
 exact d _ ⟨rfl,o⟩
def È {i n:Nat} (h:i<n) (a:n<=1000000000) (f:Int->Nm ρ):ck ((i:Int)+1) f=f ((i:Int)+1):=Õ (by omega) (by omega) f
def Mx {i n:Nat} (h:i<n) (x y:Nm ρ):ifb (ilt (i:Int) (Fq n)) x y=x:=by simp[û,ku,h]
def Ý (n:Nat) (x y:Nm ρ):ifb (ilt (n:Int) (Fq n)) x y=y:=by simp[û,ku]
def Ð {α:Type} {l:NO α} {i:Nat} (h:i<l.length) (x y:Nm ρ):ifb (ilt (i:Int) (ß l)) x y=x:=Mx h x y
def EF {α:Type} (p:α->Bool):∀(i:Nat) (l:NO α),ĉ (fun i a=>bif p a then some (i:Int) else none) i l=(l.findIdx? p).map fun j=>((i+j:Nat):Int)
 |_,[]=>rfl
 |i,a::t=>by
  simp only[ĉ,List.findIdx?_cons]
  cases c:p a with
  |true=>simp
  |false =>
   simp only[cond_false,bW,if_false];rw[EF p (i+1) t]
   cases t.findIdx? p with
   |none=>rfl
   |some j=>simp only[cp]; congr 1; omega
def ŋ {α β:Type} {e:Nat->α->Nm β}:∀{i:Nat} {l:NO α},ĉ e i l=none↔∀j a,l[j]?=some a->e (i+j) a=none
 |_,[]=>by simp[ĉ]
 |i,a::t=>by
  simp only[ĉ];constructor
  ·intro h j b hb
   cases d:e i a with
   |some c=>rw[d] at h; cases h
   |none =>
    rw[d] at h
    cases j with
    |zero=>simp at hb; subst hb; simpa using d
    |succ j=>have:=(ŋ.1 h) j b (by simpa using hb); rw[<-this]; congr 1; omega
  ·intro h;have h0:=h 0 a (by simp);simp only[dU] at h0;rw[h0]
   exact ŋ.2 fun j b hb=>by have:=h (j+1) b (by simpa using hb); rw[<-this]; congr 1; omega
def take_succ {α:Type} {l:NO α} {i:Nat} {a:α} (h:l[i]?=some a):l.take (i+1)=l.take i++[a]:=by rw[List.take_succ,h]; rfl
end
end Go.Am
end

noncomputable section
namespace Go.Proofs.ZzM
open Go Go.Am
section
variable {ρ:Type}
def ė {τ:Type} {f:τ->(τ->Nm ρ)->Nm ρ} {r:Nm ρ} (I:τ->Prop) (μ:τ->Nat)
 (h:∀x,I x->(∀a,f x a=r)\/∃y,I y/\μ y<μ x/\∀a,f x a=a y) {x:τ} (c:I x):Ó f x=r :=
 Ef (F:=fun _=>r) I μ (fun x c a e=>by
  rcases h x c with d|⟨y,d,h2,g⟩
  ·exact d a
  ·rw[g,e y d h2]) c
def Γ {α:Type} (l:NO α) (p:α->Bool) (e:Int->Nm ρ) (d:Nm ρ) {f:Int->(Int->Nm ρ)->Nm ρ}
 (h:∀(i:Nat) (a:α),i<l.length->l[i]?=some a->∀c,f i c=if p a then e i else c ((i:Int)+1))
 (g:∀c,f l.length c=d):Ó f 0=match l.findIdx? p with|some j=>e j|none=>d:=by
 rw[Τ l (fun i a=>bif p a then some (i:Int) else none) e d (fun i a hi ha c=>by rw[h i a hi ha c]; cases p a<;>rfl) g,EF]
 cases l.findIdx? p with
 |none=>rfl
 |some j=>simp
def Ę {α:Type} (l:NO α) (p:α->Bool) (e:Int->Nm ρ) (K d:Nm ρ) {f:Int->(Int->Nm ρ)->Nm ρ} (s:∀j:Nat,e j=K)
 (h:∀(i:Nat) (a:α),i<l.length->l[i]?=some a->∀c,f i c=if p a then e i else c ((i:Int)+1))
 (o:∀c,f l.length c=d):Ó f 0=if l.any p then K else d:=by
 rw[Γ l p e d h o]
 cases g:l.findIdx? p with
 |none =>
  have:l.any p=false:=by
   rw[dz];intro x m;have:=cT.1 g x m;simp[this]
  simp[this]
 |some j =>
  have:l.any p=true:=by
   have:=cq.1 g;obtain⟨r,n,_⟩:=this;exact dI.2 ⟨_,List.getElem_mem r,n⟩
  simp[this,s]
end
abbrev æ:Type:=Int×Int×Int×(Int×Int)×((Int×Int)×Int)
abbrev AD:Type:=Int×((Int×Int)×Int)
abbrev Cmp:Type:=Int×Int×NO Int×NO Int×Int×(Int×(Int×Int))
abbrev ã:Type:=(Int×Int)×NO æ×NO (Int×Int)×NO AD×NO Cmp×NO (Int×Int)
abbrev Sys:Type:=Int×NO (Int×Int×Int)
abbrev Maker:Type:=ã×NO (Int×Int)×Sys×NO (Int×Int)
section
variable {ρ:Type}
def Û {b:Bool} (h:b=true) (x y:Nm ρ):ifb b x y=x:=by rw[h]; rfl
def Ñ {b:Bool} (h:b=false) (x y:Nm ρ):ifb b x y=y:=by rw[h]; rfl
end
def I64 (n:Int):Prop:=-9223372036854775808<=n/\n<=9223372036854775807
def inP (n lo hi:Int):Bool:=decide (lo<=n)&&decide (n<=hi)
def yd (n:Int):Bool:=inP n 0 20000
def Ÿ (s:Int×Int) (lo hi:Int):Bool:=decide (lo<=s.1)&&(decide (s.1<=s.2)&&decide (s.2<=hi))
def Ń (n lo hi:Int):ø n lo hi=some (inP n lo hi):=by
 unfold ø Hv inP ile
 cases decide (lo<=n)<;>rfl
def xC (n:Int):fO n=some (yd n):=by
 unfold fO Mb;rw[Ń]; rfl
def xD (s:Int×Int) (lo hi:Int):ł s lo hi=some (Ÿ s lo hi):=by
 unfold ł Hy Ÿ ile
 cases decide (lo<=s.1)<;>cases decide (s.1<=s.2)<;>rfl
def Im {n:Int} (h:I64 n):mi n=some (n.natAbs:Int):=by
 obtain⟨c,h2⟩:=h;unfold mi P2
 by_cases a:n<0
 ·have:ilt n 0=true:=by simpa using a
  rw[Û this];congr 1;simp only[IntKind.wrap,IntKind.bits,IntKind.signed];simp;omega
 ·have:ilt n 0=false:=by simpa using a
  rw[Ñ this];congr 1;simp only[IntKind.wrap,IntKind.bits,IntKind.signed];simp;omega
def YK (a b:Nat):EK a b=some ((Nat.gcd a b:Nat):Int):=by
 unfold EK Uj;refine ė (fun x:Int×Int=>∃c d:Nat,x=((c:Int),(d:Int))/\Nat.gcd c d=Nat.gcd a b) (fun x=>x.2.toNat) ?_ ⟨a,b,rfl,rfl⟩;rintro x ⟨c,d,rfl,e⟩
 cases d with
 |zero =>
  refine .inl fun f=>?_;rw[Nat.gcd_zero_right] at e;unfold sc;simp[e,ine]
 |succ d =>
  refine .inr ⟨(((d+1:Nat):Int),((c % (d+1):Nat):Int)),⟨d+1,c % (d+1),rfl,?_⟩,?_,fun f=>?_⟩
  ·rw[<-e,fG c (d+1),Nat.gcd_rec (d+1) c,fG]
  ·have:=fj c (fi d);simp only[bU];omega
  ·unfold sc
   have g:ine ((d+1:Nat):Int) 0=true:=by simp[ine]; omega
   have h2:š ((d+1:Nat):Int) 0=false:=by simp[š]; omega
   simp only[g,Û Ñ h2];congr 1
def yE (r:Int×Int):Bool :=
 decide (1<=r.2)&&(decide (r.2<=2147483647)&&(decide ((r.1.natAbs:Int)<=2147483647)&&decide (Nat.gcd r.1.natAbs r.2.natAbs=1)))
def J6 {r:Int×Int} (h:I64 r.1):nS r=some (yE r):=by
 unfold nS L3 yE
 by_cases c:1<=r.2
 ·by_cases h2:r.2<=2147483647
  ·have g:I64 r.2:=⟨by omega,by omega⟩
   have a:ige r.2 1=true:=by simp[ige,c]
   have f:ile r.2 2147483647=true:=by simp[ile,h2]
   rw[Û a,Û f,Im h,À]
   by_cases d:(r.1.natAbs:Int)<=2147483647
   ·have e:ile (r.1.natAbs:Int) 2147483647=true:=by simp[ile,d]
    rw[Û e,À,Im g,À,YK,À];congr 1;rw[cN];simp only[ieq,beq_iff_eq,c,h2,d,decide_true,cX,decide_eq_true_eq];omega
   ·have e:ile (r.1.natAbs:Int) 2147483647=false:=by simp[ile]; omega
    rw[Ñ e];simp[d]
  ·have a:ige r.2 1=true:=by simp[ige,c]
   have f:ile r.2 2147483647=false:=by simp[ile]; omega
   rw[Û a,Ñ f];simp[h2]
 ·have a:ige r.2 1=false:=by simp[ige]; omega
  rw[Ñ a];simp[c]
def i6 (g:æ):Bool :=
 yE g.2.2.2.2.1&&inP g.2.2.2.2.1.1 (-1000) 1000&&decide (g.2.2.2.2.1.2<=100)&&inP g.1 1 1099511627776&&yd g.2.1&&inP g.2.2.1 1 1125899906842624&&Ÿ g.2.2.2.1 (-1073741824) 1073741824&&inP g.2.2.2.2.2 0 1048576
def Sa {g:æ} (h:I64 g.2.2.2.2.1.1):o9 g=some (i6 g):=by
 unfold o9 vA i6;rw[J6 h,Ń,Ń,xC,Ń,xD,Ń];generalize yE g.2.2.2.2.1=x1;generalize inP g.2.2.2.2.1.1 (-1000) 1000=x2;generalize inP g.1 1 1099511627776=x3;generalize yd g.2.1=x4;generalize inP g.2.2.1 1 1125899906842624=x5;generalize Ÿ g.2.2.2.1 (-1073741824) 1073741824=x6;generalize inP g.2.2.2.2.2 0 1048576=x7;unfold ile;generalize decide (g.2.2.2.2.1.2<=100)=x8
 cases x1<;>cases x2<;>cases x3<;>cases x4<;>cases x5<;>cases x6<;>cases x8<;>rfl
end Go.Proofs.ZzM
end

noncomputable section
namespace Go.Proofs.ZzM
open Go Go.Am
abbrev BL:Type:=NO UInt8
abbrev toL (s:ByteArray):BL:=s.data.toList
abbrev ofL (l:BL):ByteArray:=⟨l.toArray⟩
def ND {s t:ByteArray} (h:toL s=toL t):s=t:=by
 obtain⟨⟨s⟩⟩:=s; obtain⟨⟨t⟩⟩:=t; cases h; rfl
def mr (s:ByteArray):ofL (toL s)=s:=ND rfl
def ć (a b:BL):ofL a++ofL b=ofL (a++b):=ND (by rw[toL,ByteArray.toList_data_append])
def Ò (l:BL):(ofL l).size=l.length:=by rw[Lib.size_eq]
def vR (s:ByteArray):s.size=(toL s).length:=Lib.size_eq s
def IQ {a b:BL} (h:ofL a=ofL b):a=b:=by have:=congrArg toL h; simpa using this
def il (l:BL) (i j:Nat):(ofL l).extract i j=ofL ((l.take j).drop i):=by
 apply ND;have:=Lib.extract_toList (ofL l) i j;rw[ByteArray.toList_eq] at this;rw[toL,this,List.drop_take]
def gX (a b:BL):((ofL a).toList==(ofL b).toList)=decide (a=b):=by
 rw[ByteArray.toList_eq,ByteArray.toList_eq]
 by_cases h:a=b
 ·simp[h]
 ·simp[h]
def rV (a b:BL):NN (ofL a) (ofL b)=decide (a=b):=rfl
open Lib in
def Oy {u k:Nat} (h:u<10 ^ (k+1)):(decDigits u).length<=k+1:=by
 induction k generalizing u with
 |zero=>rw[decDigits,dif_pos (by simpa using h)]; simp
 |succ k a =>
  rw[decDigits]
  split
  ·simp
  ·have:=a (u:=u / 10) (by rw[Nat.pow_succ] at h; omega);simp; omega
def yb (u:Nat):∀c∈Lib.decDigits u,48<=c.toNat/\c.toNat<=57:=by
 induction u using Nat.strongRecOn with
 |ind u ih =>
  rw[Lib.decDigits]
  have one:∀d:Nat,d<10->48<=(UInt8.ofNat (48+d)).toNat/\(UInt8.ofNat (48+d)).toNat<=57:=fun d hd=>by
   rw[UInt8.toNat_ofNat']; omega
  split
  ·intro c a; rw[bK.1 a]; exact one u (by omega)
  ·intro c a;rcases bJ.1 a with a|a
   ·exact ih (u / 10) (by omega) c a
   ·rw[bK.1 a]; exact one (u % 10) (by omega)
def Vg (u:Nat):Lib.decDigits u≠[]:=by
 rw[Lib.decDigits]; split<;>simp
def RZ (n:Int):∀c∈Lib.itoa n,c.toNat=45\/48<=c.toNat/\c.toNat<=57:=by
 unfold Lib.itoa
 split
 ·intro c a;rcases bL.1 a with rfl|a
  ·exact .inl rfl
  ·exact .inr (yb _ c a)
 ·exact fun c a=>.inr (yb _ c a)
def Ql {n:Int} {k:Nat} (h:n.natAbs<10 ^ (k+1)):(Lib.itoa n).length<=k+2:=by
 unfold Lib.itoa
 split
 ·have:=Oy h; simp; omega
 ·have:=Oy (u:=n.toNat) (k:=k) (by omega); omega
def sh {n:Int} (h:I64 n):(Lib.itoa n).length<=20:=Ql (k:=18) (by obtain⟨a,h2⟩:=h; omega)
def aac {n:Int} (h:I64 n):mG n=some (ofL (Lib.itoa n)):=by
 unfold mG UR i64B;simp[h.1,h.2,ofL]
def nX {d:Int} (h0:0<=d) (a:d<10):mI [IntKind.wrap .u8 (48+d)]=ofL [UInt8.ofNat (48+d.toNat)]:=by
 obtain⟨k,rfl⟩:=dy h0
 have:IntKind.wrap .u8 (48+(k:Int))=((48+k:Nat):Int):=by
  simp only[IntKind.wrap,IntKind.bits,IntKind.signed];simp;omega
 rw[this]; rfl
def Kl (m:Nat):Int.tmod (m:Int) 10=((m % 10:Nat):Int):=(Int.ofNat_tmod m 10).symm
def Yw (m:Nat):Int.tdiv (m:Int) 10=((m / 10:Nat):Int):=(Int.ofNat_tdiv m 10).symm
def QA {g:Int->Nm ByteArray} {a:Nat} (ha:a<=9223372036854775807):∀(u:Nat) (acc:BL),u<=a->acc.length<=100+(a-u)->(if u<10 then[] else Lib.decDigits (u / 10))++acc=Lib.decDigits a ->
 Ó (fun(c:Int×ByteArray) d=>gO g c.1 c.2 (fun f e=>d (f,e)) (fun m=>(some m:Nm ByteArray))) ((u:Int),ofL acc)=some (ofL (Lib.decDigits a)):=by
 intro u acc j s hd;refine ė (fun x=>∃(u:Nat) (acc:BL),x=((u:Int),ofL acc)/\u<=a/\(if u<10 then[] else Lib.decDigits (u / 10))++acc=Lib.decDigits a) (fun x=>x.1.toNat) ?_ ⟨u,acc,rfl,j,hd⟩;rintro x ⟨u,acc,rfl,j,hd⟩;unfold gO
 by_cases h:u<10
 ·refine .inl fun n=>?_;rw[Ñ (by simp[igt]; omega)];simp only[h,if_true,cS] at hd;rw[<-hd]
 ·refine .inr ⟨(((u / 10:Nat):Int),ofL (UInt8.ofNat (48+u / 10 % 10)::acc)),⟨u / 10,_,rfl,by omega,?_⟩,by simp; omega,fun n=>?_⟩
  ·rw[if_neg h] at hd;rw[<-hd,Lib.decDigits.eq_def (u / 10)]
   split
   ·rename_i i; rw[d9 i]; rfl
   ·rw[bS]; rfl
  ·have l:acc.length<=19:=by
    have i:=congrArg List.length hd;have h2:=Oy (u:=a) (k:=18) (by omega);rw[bI] at i; omega
   have r:=Yw u;have o:=Kl (u / 10);rw[Û (by simp[igt]; omega),r,Õ (by omega) (by omega),o,Õ (by omega) (by omega),nX (by omega) (by omega),Ò,Ò,É (by simp; omega),Am.iff_true,ć,bU];rfl
def S7:∀(k:Nat) {n:Int},n.natAbs<10 ^ (k+1)->I64 n->iH (k+1) n=some (ofL (Lib.itoa n)):=by
 intro k
 induction k with
 |zero =>
  intro n h e;show Ŗ _ n some=_;unfold Ŗ Lib.itoa
  by_cases h0:n<0
  ·obtain⟨m,rfl⟩:∃m:Nat,n = -(m:Int):=⟨n.natAbs,by omega⟩
   have d:Int.tmod (-(m:Int)) 10 = -((m % 10:Nat):Int):=by rw[Int.neg_tmod,Kl]
   have c:m<10:=by simpa using h
   rw[Û (by simpa[ilt] using h0),if_pos h0,d,Õ (by omega) (by omega),Û (by simp[igt]; omega),Õ (by omega) (by omega),show(0:Int) - -((m % 10:Nat):Int)=((m % 10:Nat):Int) by omega,nX (by omega) (by omega)];rw[show ByteArray.mk #[45]=ofL [45] from rfl,Ò,Ò,É (by simp),Am.iff_true,ć,Lib.decDigits,dif_pos (by omega)];simp[d9 c]
  ·obtain⟨m,rfl⟩:=dy (show 0<=n by omega)
   have c:m<10:=by simpa using h
   have d:Int.tmod (m:Int) 10=((m % 10:Nat):Int):=Kl m;rw[Ñ (by simp[ilt]),if_neg h0,d,Õ (by omega) (by omega),nX (by omega) (by omega)];refine(QA (a:=m) (by omega) m [UInt8.ofNat (48+m % 10)] (bE _) (by simp) ?_).trans (by simp);rw[if_pos c,Lib.decDigits,dif_pos c,d9 c]; rfl
 |succ k g =>
  intro n h e;show Ŗ (iH (k+1)) n some=_;unfold Ŗ Lib.itoa
  by_cases h0:n<0
  ·obtain⟨m,rfl⟩:∃m:Nat,n = -(m:Int):=⟨n.natAbs,by omega⟩;have l:=e.1
   have d:Int.tmod (-(m:Int)) 10 = -((m % 10:Nat):Int):=by rw[Int.neg_tmod,Kl]
   have o:Int.tdiv (-(m:Int)) 10 = -((m / 10:Nat):Int):=by rw[Int.neg_tdiv,Yw]
   rw[Û (by simpa[ilt] using h0),if_pos h0,d,Õ (by omega) (by omega),show(0:Int) - -((m % 10:Nat):Int)=((m % 10:Nat):Int) by omega]
   by_cases c:m<10
   ·rw[Û (by simp[igt]; omega),Õ (by omega) (by omega),nX (by omega) (by omega),show ByteArray.mk #[45]=ofL [45] from rfl,Ò,Ò,É (by simp),Am.iff_true,ć,Lib.decDigits,dif_pos (by omega)];simp[d9 c]
   ·have i:(-((m / 10:Nat):Int))<0:=by omega
    have f:=sh (n:=-((m / 10:Nat):Int)) ⟨by omega,by omega⟩;rw[Ñ (by simp[igt]; omega),o,Õ (by omega) (by omega),g (by rw[Nat.pow_succ] at h; omega) ⟨by omega,by omega⟩,À,Õ (by omega) (by omega),nX (by omega) (by omega),Ò,Ò,É (by show _+1<=_; omega),Am.iff_true,ć];unfold Lib.itoa;rw[if_pos i,Lib.decDigits.eq_def (-(m:Int)).natAbs,dif_neg (by omega),show(-((m / 10:Nat):Int)).natAbs=m / 10 by omega,show(-(m:Int)).natAbs=m by omega,Int.toNat_natCast];rfl
  ·obtain⟨m,rfl⟩:=dy (show 0<=n by omega);have j:=e.2;have d:Int.tmod (m:Int) 10=((m % 10:Nat):Int):=Kl m;rw[Ñ (by simp[ilt]),if_neg h0,d,Õ (by omega) (by omega),nX (by omega) (by omega)];refine(QA (a:=m) (by omega) m [UInt8.ofNat (48+m % 10)] (bE _) (by simp) ?_).trans (by simp);rw[Lib.decDigits.eq_def m]
   split
   ·rename_i c; rw[d9 c]; rfl
   ·rfl
def O2 {n:Int} (h:I64 n):rx n=some (ofL (Lib.itoa n)):=S7 99 (by obtain⟨a,h2⟩:=h; have:(10:Nat) ^ 20<=10 ^ (99+1):=Nat.pow_le_pow_right (by omega) (by omega); omega) h
def WL (u:Nat) (a:u<18446744073709551616):∀(acc:Nat) (r:BL),acc=0->Lib.parseUint10 acc (Lib.decDigits u++r)=Lib.parseUint10 u r:=by
 induction u using Nat.strongRecOn with
 |ind u ih =>
  intro acc r ha;subst ha
  have one:∀d:Nat,d<10->(UInt8.ofNat (48+d)).toNat=48+d:=fun d hd=>by rw[UInt8.toNat_ofNat']; omega
  rw[Lib.decDigits]
  split
  ·rename_i h;simp only[cO,cS,Lib.parseUint10,one u h];rw[if_pos (by omega),if_neg (by omega),if_neg (by omega)];congr 1; omega
  ·rename_i h;rw[bS,ih (u / 10) (by omega) (by omega) 0 _ rfl];simp only[cO,cS,Lib.parseUint10,one (u % 10) (by omega)];rw[if_pos (by omega),if_neg (by omega),if_neg (by omega)];congr 1; omega
def Ue {u:Nat} (a:u<18446744073709551616):Lib.parseMag (Lib.decDigits u)=.ok u:=by
 unfold Lib.parseMag;rw[if_neg (Vg u)];have:=WL u a 0 [] rfl;rw[List.append_nil] at this;rw[this]; rfl
def VZ {n:Int} (h:I64 n):Lib.atoiAll (Lib.itoa n)=.ok n:=by
 obtain⟨d,h2⟩:=h;unfold Lib.itoa
 split
 ·rename_i h0;rw[Lib.atoiAll_minus,Ue (by omega)];unfold Lib.signed;simp only;rw[if_neg (by omega)];congr 1; omega
 ·rename_i h0
  obtain⟨c,r,a⟩:∃c r,Lib.decDigits n.toNat=c::r:=by
   cases h:Lib.decDigits n.toNat with
   |nil=>exact absurd h (Vg _)
   |cons c r=>exact⟨c,r,rfl⟩
  have hd:=yb n.toNat c (by rw[a]; simp);rw[a,Lib.atoiAll_plain c r (by omega) (by omega),<-a,Ue (by omega)];unfold Lib.signless;simp only;rw[if_neg (by omega)];congr 1; omega
def vI (w:BL):Int:=match Lib.atoiAll w with|.ok v=>v|_=>0
def V1 (w:BL):I64 (vI w):=by
 unfold vI
 split
 ·exact Lib.atoiAll_bounds (by assumption)
 ·exact⟨by omega,by omega⟩
def H9 {n:Int} (h:I64 n):vI (Lib.itoa n)=n:=by unfold vI; rw[VZ h]
end Go.Proofs.ZzM
end

noncomputable section
namespace Go.Proofs.ZzM
open Go Go.Am
def Fl (c:UInt8):BL->BL->NO BL
 |acc,[]=>[acc]
 |acc,b::l=>if b=c then acc::Fl c [] l else Fl c (acc++[b]) l
abbrev Gg (c:UInt8) (l:BL):NO BL:=Fl c [] l
def yf (c:UInt8):∀(w acc l:BL),(∀b∈w,b≠c)->Fl c acc (w++l)=Fl c (acc++w) l
 |[],acc,l,_=>by simp
 |b::w,acc,l,h=>by
  rw[cO,Fl,if_neg (h b (by simp)),yf c w _ l fun x a=>h x (by simp[a])];simp
def Ca (c:UInt8):∀(l acc:BL),(Fl c acc l).length<=l.length+1
 |[],_=>by simp[Fl]
 |b::l,acc=>by
  rw[Fl]
  split
  ·have:=Ca c l []; simp; omega
  ·have:=Ca c l (acc++[b]); simp; omega
def yh (c:UInt8):∀(l acc:BL),∀w∈Fl c acc l,w.length<=acc.length+l.length
 |[],acc,w,h=>by rw[bK.1 h]; simp
 |b::l,acc,w,h=>by
  rw[Fl] at h
  split at h
  ·rcases bL.1 h with rfl|h
   ·simp
   ·have:=yh c l [] w h; simp at this ⊢; omega
  ·have:=yh c l _ w h; simp at this ⊢; omega
def JM (c:UInt8):∀(l acc:BL),∃w ws,Fl c acc l=w::ws
 |[],acc=>⟨_,_,rfl⟩
 |b::l,acc=>by
  rw[Fl]
  split
  ·exact⟨_,_,rfl⟩
  ·exact JM c l _
def spL (c:UInt8) (ws:NO BL):BL:=ws.flatMap fun w=>c::w
def OC (c:UInt8):∀(ws:NO BL) (w:BL),(∀b∈w,b≠c)->(∀v∈ws,∀b∈v,b≠c)->Gg c (w++spL c ws)=w::ws
 |[],w,h,_=>by
  have:=yf c w [] [] h;rw[b6] at this;simp only[spL,eO,b6];rw[Gg,this]; rfl
 |v::ws,w,h,a=>by
  rw[Gg,yf c w [] _ h]
  have:spL c (v::ws)=c::(v++spL c ws):=by simp[spL]
  rw[this,Fl,if_pos rfl,cS];rw[show Fl c [] (v++spL c ws)=_ from OC c ws v (a v (by simp)) fun x d=>a x (by simp[d])]
def QW (l:BL) (c:UInt8) (r:l.length<=1000000):nJ (ofL l) (c.toNat:Int)=some ((Gg c l).map ofL):=by
 unfold nJ Hf;refine ė (fun x=>∃(f i:Nat) (out:NO BL),x=((f:Int),(i:Int),out.map ofL)/\f<=i/\i<=l.length/\out.length<=i/\Gg c l=out++Fl c ((l.take i).drop f) (l.drop i)) (fun x=>l.length-x.2.1.toNat) ?_ ⟨0,0,[],rfl,Nat.le_refl _,Nat.zero_le _,Nat.zero_le _,by simp⟩;rintro x ⟨f,i,out,rfl,s,hi,o,d⟩;unfold oo;dsimp only;rw[Ò]
 by_cases h:i<l.length
 ·refine .inr ?_;have n:l[i]?=some l[i]:=bG h
  have hb:∀K:Int->Nm (NO ByteArray),Po (ofL l) (i:Int) K=K (((l[i]'h:UInt8).toNat:Nat):Int):=fun K=>by
   unfold Po
   have:(ofL l)[i]?=some l[i]:=by
    have m:i<(ofL l).size:=by rw[Ò]; exact h
    rw[getElem?_pos (ofL l) i m];rfl
   simp[this]
  have hd:l.drop i=l[i]::l.drop (i+1):=cG h;have j:l.take (i+1)=l.take i++[l[i]]:=take_succ n
  by_cases a:l[i]=c
  ·refine⟨(((i+1:Nat):Int),((i+1:Nat):Int),(out++[(l.take i).drop f]).map ofL),⟨i+1,i+1,_,rfl,bE _,h,by simp; omega,?_⟩,by simp; omega,fun g=>?_⟩
   ·rw[d,hd,Fl,if_pos a,show(l.take (i+1)).drop (i+1)=[] by simp]; simp
   ·rw[Mx h,hb,Û (by simp[ieq,a]),show(ile (0:Int) (f:Int)&&(ile (f:Int) (i:Int)&&ile (i:Int) ((l.length:Nat):Int)))=true by simp[ile]; omega,Am.iff_true,É (by simp; omega),Am.iff_true,Õ (by omega) (by omega),Õ (by omega) (by omega),bU,bU,il];simp
  ·refine⟨((f:Int),((i+1:Nat):Int),out.map ofL),⟨f,i+1,out,rfl,by omega,h,by omega,?_⟩,by simp; omega,fun g=>?_⟩
   ·rw[d,hd,Fl,if_neg a,j,eE (by simp; omega)]
   ·rw[Mx h,hb,Ñ (by
     have:(l[i].toNat:Int)≠c.toNat:=fun e=>a (UInt8.toNat_inj.1 (by omega))
     simpa[ieq] using this),Õ (by omega) (by omega)]
    simp
 ·refine .inl fun g=>?_
  obtain rfl:i=l.length:=by omega
  rw[Ý];rw[show(ile (0:Int) (f:Int)&&ile (f:Int) ((l.length:Nat):Int))=true by simp[ile]; omega,Am.iff_true,É (by simp; omega),Am.iff_true,d,il];simp[Fl]
open Lib in
def Mv (c:UInt8):∀l:BL,(index l [c] = -1/\∀b∈l,b≠c)\/∃w r,l=w++c::r/\(∀b∈w,b≠c)/\index l [c]=w.length
 |[]=>.inl ⟨rfl,by simp⟩
 |b::l=>by
  by_cases h:b=c
  ·subst h;refine .inr ⟨[],l,rfl,by simp,?_⟩;unfold index; rw[if_pos (by simp[List.isPrefixOf])]; rfl
  ·have d:List.isPrefixOf [c] (b::l)=false:=by simp[List.isPrefixOf,Ne.symm h]
   rcases Mv c l with⟨f,h2⟩|⟨w,r,rfl,h2,e⟩
   ·refine .inl ⟨by unfold index; rw[d,f]; rfl,fun x a=>?_⟩;rcases List.mem_cons.1 a with rfl|a
    ·exact h
    ·exact h2 x a
   ·refine .inr ⟨b::w,r,rfl,fun x a=>?_,?_⟩
    ·rcases bL.1 a with rfl|a
     ·exact h
     ·exact h2 x a
    ·unfold index;rw[d,e]
     have:(((w.length:Nat):Int)==-1)=false:=by rw[beq_eq_false_iff_ne]; omega
     simp[this]
def Gz (c:UInt8):∀(k:Nat) (l:BL),l.count c=k->Lib.splitK [c] 0 k l=Gg c l
 |0,l,h=>by
  have h0:∀b∈l,b≠c:=fun b hb e=>List.count_eq_zero.1 h (e▸hb);have:=OC c [] l h0 (by simp);rw[show spL c []=[] from rfl,b6] at this;rw[this]; rfl
 |k+1,l,h=>by
  rcases Mv c l with⟨_,h2⟩|⟨w,r,rfl,h2,g⟩
  ·exact absurd (List.count_eq_zero.2 fun a=>h2 _ a rfl) (by omega)
  ·have d:w.count c=0:=List.count_eq_zero.2 fun a=>h2 _ a rfl
   have f:r.count c=k:=by rw[List.count_append,List.count_cons,d] at h; simp at h; omega
   rw[Lib.splitK,g,if_neg (by rw[beq_iff_eq]; omega),bU,dU,List.take_left,show w.length+[c].length=w.length+1 from rfl,Gg,yf c w [] _ h2,Fl,if_pos rfl,cS];congr 1;rw[show(w++c::r).drop (w.length+1)=r by simp,Gz c k r f]
def Sr (l:BL) (c:UInt8):Lib.countB (ofL l) (ofL [c])=l.count c:=by
 have:Lib.countB (ofL l) (ofL [c])=Lib.count l [c]:=by
  first
   |exact Lib.countB_data _ _
   |rfl
   |(unfold Lib.countB; simp)
 rw[this,Lib.count_one]
def Yg (l:BL) (c:UInt8) (a:l.length<=1000000):kM (ofL l) (ofL [c])=some ((Gg c l).map ofL):=by
 unfold kM Ks;rw[if_pos (by rw[Ò,Ò]; simp; omega),Sr];congr 1;have h:=Lib.splitB_data (ofL [c]) 0 (l.count c) (ofL l);rw[show Lib.splitK (ofL [c]).data.toList 0 (l.count c) (ofL l).data.toList=Gg c l from Gz c _ l rfl] at h;rw[<-h,List.map_map];exact(List.map_id' _).symm.trans (List.map_congr_left fun s _=>(mr s).symm)
def Z0 (l p:BL) (a:l.length<=1000000):υ (ofL l) (ofL p)=some (ofL (Lib.trimSuffix l p)):=by
 unfold υ Tk;rw[if_pos (by rw[Ò]; omega)]
def Y1 (l p:BL):Lib.trimSuffix (l++p) p=l:=by
 unfold Lib.trimSuffix Lib.hasSuffix;rw[if_pos (by simp[List.isSuffixOf_iff_suffix])];simp
def Pg (l p:BL):(Lib.trimSuffix l p).length<=l.length:=by
 unfold Lib.trimSuffix; split<;>simp
def aab (xs:NO BL) (c:UInt8) (a:xs.length<=1000000) (h2:(Lib.join xs [c]).length<=100000000):mF (xs.map ofL) (ofL [c])=some (ofL (Lib.join xs [c])):=by
 unfold mF UP
 have e:(xs.map ofL).map (·.data.toList)=xs:=by rw[List.map_map]; exact(cV fun x _=>rfl).trans (List.map_id _)
 rw[e,if_pos];rw[cr];simp only[bH,decide_eq_true_eq];exact⟨by omega,by show(Lib.join xs [c]).length<=_; omega⟩
def UQ (c:UInt8) (r:BL):∀w:BL,(∀b∈w,b≠c)->Lib.indexByte (w++c::r) c=w.length
 |[],_=>by rw[List.nil_append]; unfold Lib.indexByte; rw[if_pos (by simp)]; rfl
 |b::w,h=>by
  rw[List.cons_append];unfold Lib.indexByte;rw[if_neg (by simpa using h b (by simp)),UQ c r w fun x a=>h x (by simp[a]),if_neg (by rw[beq_iff_eq]; omega)];simp
def zb:∀(n:Nat) (s:ByteArray),(jp n s).length<=n/\∀y∈jp n s,y.size<=s.size
 |0,s=>⟨bE _,by simp[jp]⟩
 |n+1,s=>by
  obtain⟨l,rfl⟩:∃l,s=ofL l:=⟨_,(mr s).symm⟩;rw[jp]
  split
  ·exact⟨cg _,by simp⟩
  ·split
   ·rw[il,il];have c:=zb n (ofL ((l.take (ofL l).size).drop (Lib.indexByte (ofL l).data.toList 10+1).toNat))
    have h2:(ofL ((l.take (ofL l).size).drop (Lib.indexByte (ofL l).data.toList 10+1).toNat)).size<=(ofL l).size:=by rw[Ò,Ò]; simp
    refine⟨by have:=c.1; rw[bO]; omega,fun y a=>?_⟩;rcases bL.1 a with rfl|a
    ·rw[Ò,Ò]; simp; omega
    ·exact bP (c.2 y a) h2
   ·exact⟨by simp,fun y a=>by rw[bK.1 a]; exact bE _⟩
def Mn:∀(n:Nat) (a:NO BL),(∀l∈a,∀b∈l,b≠10)->(a.flatMap fun l=>l++[10]).length<=n->jp n (ofL (a.flatMap fun l=>l++[10]))=a.map fun l=>ofL (l++[10])
 |n,[],_,_=>by
  cases n with
  |zero=>rfl
  |succ n=>rw[jp,if_pos (by rw[Ò]; rfl)]; rfl
 |0,l::a,_,c=>by simp at c
 |n+1,l::a,h,c=>by
  have e:((l::a).flatMap fun l=>l++[10])=l++10::a.flatMap fun l=>l++[10]:=by simp
  rw[e] at c ⊢;rw[jp,if_neg (by rw[Ò]; simp)]
  have hi:Lib.indexByte (ofL (l++10::a.flatMap fun l=>l++[10])).data.toList 10=l.length:=by
   exact UQ 10 _ l (h l (by simp))
  rw[hi,if_pos (by omega),show((l.length:Int)+1).toNat=l.length+1 by omega,il,il,Ò,cE]
  have g:((l++10::a.flatMap fun l=>l++[10]).take (l.length+1)).drop 0=l++[10]:=by
   rw[List.drop_zero,show l++10::(a.flatMap fun l=>l++[10])=(l++[10])++a.flatMap fun l=>l++[10] by simp];rw[dO (by simp),cA (by simp)]
  have f:((l++10::a.flatMap fun l=>l++[10]).take (l++10::a.flatMap fun l=>l++[10]).length).drop (l.length+1)=a.flatMap fun l=>l++[10]:=by
   rw[eR,show l++10::(a.flatMap fun l=>l++[10])=(l++[10])++a.flatMap fun l=>l++[10] by simp];rw[eE (by simp),ft (by simp)]; rfl
  rw[g,f,Mn n a (fun x d=>h x (by simp[d])) (by simp at c ⊢; omega)]
end Go.Proofs.ZzM
end

noncomputable section
namespace Go.Proofs.ZzM
open Go Go.Am
section
variable {ρ:Type}
def xF {α:Type} {l:NO α} {i:Nat} {a:α} (h0:0<i) (h:l[i-1]?=some a) (f:α->Nm ρ):è l ((i:Int)-1) f=f a:=by
 have:((i:Int)-1)=((i-1:Nat):Int):=by omega
 rw[this,Æ h]
def ES {i:Nat} (h:0<i) (a:i<=1000000000) (f:Int->Nm ρ):ck ((i:Int)-1) f=f ((i:Int)-1):=Õ (by omega) (by omega) f
def ς {i n:Nat} (h:i<n) (x:Nm ρ):ä ((ile 0 (i:Int))&&(ilt (i:Int) (n:Int))) x=x:=by
 have:((ile 0 (i:Int))&&(ilt (i:Int) (n:Int)))=true:=by simp[ile,ilt,h]
 rw[this,Am.iff_true]
def Ě {α:Type} {l:NO α} {i:Nat} {a:α} (h:l[i]?=some a) (f:α->Nm ρ):κ l (Int.toNat (i:Int)) f=f a:=by
 rw[bU]; exact wm h f
end
def vH {α:Type} (c:α->Int) (l:NO α) (i:Nat) (a:α):Bool :=
 decide (0<i)&&(l[i-1]?).any fun q=>decide (c a<=c q)
def vW {α:Type} {l:NO α} {i:Nat} (hi:i<l.length) (h0:0<i):∃q,l[i-1]?=some q :=
 ⟨l[i-1],bG (by omega)⟩
def J0 {α:Type} (c:α->Int) (l:NO α):(∀i a,l[i]?=some a->vH c l i a=false)↔l.Pairwise (fun a b=>c a<c b):=by
 rw[dm];constructor
 ·intro h
  have step:∀i (e:i+1<l.length),c l[i]<c l[i+1]:=by
   intro i e;have:=h (i+1) l[i+1] (bG e);simp only[vH,Nat.add_sub_cancel,fi,decide_true,cX,bG (show i<l.length by omega),Option.any_some,decide_eq_false_iff_not] at this;omega
  intro i j hi g m
  induction j with
  |zero=>omega
  |succ j f =>
   have:=step j g;rcases ce i j with d|n
   ·have:=f (by omega) d; omega
   ·have:i=j:=by omega
    subst this; assumption
 ·intro h i a ha;obtain⟨hi,rfl⟩:=List.getElem?_eq_some_iff.1 ha;unfold vH
  cases i with
  |zero=>rfl
  |succ i =>
   have:=h i (i+1) (by omega) hi (by omega);simp only[Nat.add_sub_cancel,fi,decide_true,cX,bG (show i<l.length by omega),Option.any_some,decide_eq_false_iff_not];omega
def jr (l:NO æ) (i:Nat) (g:æ):Nm Int :=
 if !i6 g then some 1 else if vH (fun g=>g.1) l i g then some 6 else none
def Ε (b:ã):Int:=(ĉ (jr b.2.1) 0 b.2.1).getD 0
def Gi {b:ã} (e:∀g∈b.2.1,I64 g.2.2.2.2.1.1) (h:b.2.1.length<=1000):ĸ b=some (Ε b):=by
 unfold ĸ ri;refine Eq.trans (Τ b.2.1 (jr b.2.1) some (some 0) (fun i a hi ha d=>?_) (fun d=>?_)) ?_
 ·try dsimp only
  unfold Ŵ;rw[Ð hi,Æ ha,Sa (e a (List.mem_of_getElem? ha)),À];unfold jr
  cases j:i6 a with
  |false=>simp
  |true =>
   simp only[cJ,ð,bW,if_false];rcases dV i with h0|h0
   ·subst h0
    have:igt ((0:Nat):Int) 0=false:=by simp[igt]
    rw[Ñ this,È hi (by omega)];simp[vH]
   ·obtain⟨q,c⟩:=vW hi h0
    have f:igt (i:Int) 0=true:=by simp[igt]; omega
    rw[Û f,ES h0 (by omega),xF h0 c];simp only[vH,h0,decide_true,Bool.true_and,c,Option.any_some];unfold ile
    cases h2:decide (a.1<=q.1) with
    |true=>simp
    |false =>
     rw[ð,È hi (by omega)];simp
 ·try dsimp only
  unfold Ŵ;rw[Ý]
 ·unfold Ε
  cases ĉ (jr b.2.1) 0 b.2.1<;>rfl
def Ky (l:NO æ):NO (Int×æ):=l.foldl (fun m g=>S8 (k:=tI) (v:=Ô) g.1 g m) []
def Ġ (b:ã):NO (Int×æ):=Ky b.2.1
def mM {b:ã} (d:b.2.1.length<=1000):Ą b=some (Ġ b):=by
 unfold Ą DM;refine ĥ b.2.1 (fun i=>Ky (b.2.1.take i)) _ rfl (fun i a hi ha c=>?_) (fun c=>?_)
 ·try dsimp only
  unfold iC;rw[Ð hi,Æ ha,È hi (by omega),take_succ ha];simp only[Ky,List.foldl_append,List.foldl_cons,List.foldl_nil]
 ·try dsimp only
  unfold iC;rw[Ý,List.take_length];rfl
def Lq (x y:Int) (g:æ):∀m:NO (Int×æ),vh (k:=tI) (v:=Ô) x (S8 (k:=tI) (v:=Ô) y g m)=if x=y then some g else vh (k:=tI) (v:=Ô) x m
 |[]=>by
  unfold S8 vh mE vh
  by_cases h:x=y<;>simp[h]
 |e::m=>by
  unfold S8
  by_cases h:y=e.1
  ·have:mE tI y e.1=true:=by simp[mE,h]
   rw[this]
   try dsimp only
   unfold vh mE
   by_cases h2:x=y
   ·simp[h2]
   ·have:¬x=e.1:=fun a=>h2 (a.trans h.symm);simp[h2,this]
  ·have:mE tI y e.1=false:=by simp[mE,h]
   rw[this]
   try dsimp only
   have c:=Lq x y g m;unfold vh
   by_cases h2:x=e.1
   ·have:mE tI x e.1=true:=by simp[mE,h2]
    rw[this];have:¬x=y:=fun a=>h (a.symm.trans h2);simp[this]
   ·have:mE tI x e.1=false:=by simp[mE,h2]
    rw[this];exact c
def ķ (b:ã) (id:Int):Nm æ:=b.2.1.find? fun g=>g.1==id
def N3 (x:Int) (l:NO æ):vh (k:=tI) (v:=Ô) x (Ky l)=l.reverse.find? fun g=>g.1==x:=by
 unfold Ky;rw[<-List.foldr_reverse]
 induction l.reverse with
 |nil=>rfl
 |cons g t a =>
  rw[List.foldr_cons,Lq,a,eZ]
  by_cases h:x=g.1
  ·simp[h]
  ·have:(g.1==x)=false:=by simp; exact fun h2=>h h2.symm
   simp[h,this]
def MJ {l:NO æ} (h:l.Pairwise fun a b=>a.1<b.1) (x:Int):l.reverse.find? (fun g=>g.1==x)=l.find? fun g=>g.1==x:=by
 induction l with
 |nil=>rfl
 |cons g t d =>
  rw[cf] at h;rw[List.reverse_cons,List.find?_append,d h.2,eZ]
  by_cases c:g.1=x
  ·have:t.find? (fun g=>g.1==x)=none:=cR.2 fun y e=>by have:g.1<y.1:=h.1 y e; simp; omega
   rw[this]; simp[c]
  ·have:(g.1==x)=false:=by simp[c]
   simp[this]
def m8 {b:ã} (h:b.2.1.Pairwise fun a b=>a.1<b.1) (x:Int):vh (k:=tI) (v:=Ô) x (Ġ b)=ķ b x:=by
 unfold Ġ ķ;rw[N3,MJ h]
def ο (s:NO (Int×æ)) (id a:Int):Int :=
 match vh (k:=tI) (v:=Ô) id s with
 |some g=>if a<g.2.1 then 4 else 0
 |none=>5
def I1 (s:NO (Int×æ)) (id a:Int):Ō s id a=some (ο s id a):=by
 unfold Ō uq ο
 cases h:vh (k:=tI) (v:=Ô) id s with
 |none=>simp only[Nx,h]
 |some g =>
  simp only[Nx,h];rw[û]
  by_cases h2:a<g.2.1<;>simp[h2]
def Q8 (s:NO (Int×æ)) (id a:Int):Int:=if !yd a then 1 else ο s id a
def KS (s:NO (Int×æ)) (id a:Int):đ id a s=some (Q8 s id a):=by
 unfold đ DS Q8;rw[xC,À,I1,À]
 cases yd a<;>rfl
def Eg (b:ã) (s:NO (Int×æ)) (i:Nat) (l:AD):Int :=
 if !Ÿ l.2.1 0 20000 then 1 else if !inP l.2.2 0 1048576 then 1 else if ο s l.1 l.2.1.1 != 0 then ο s l.1 l.2.1.1 else
 if (b.2.2.2.1.take i).any (fun x=>x.1==l.1&&(decide (x.2.1.1<=l.2.1.2)&&decide (l.2.1.1<=x.2.1.2))) then 9 else
 if b.2.2.1.any (fun u=>u.1==l.1&&inP u.2 l.2.1.1 l.2.1.2) then 9 else 0
def MX {b:ã} (D:b.2.2.2.1.length<=1000) (C:b.2.2.1.length<=1000) (s:NO (Int×æ)) {i:Nat} {l:AD} (m:b.2.2.2.1[i]?=some l):Ņ b s i=some (Eg b s i l):=by
 unfold Ņ oL Eg;have hi:i<b.2.2.2.1.length:=(List.getElem?_eq_some_iff.1 m).1;rw[Æ m,xD,À,Ń,À,I1,À]
 cases Ÿ l.2.1 0 20000 with
 |false=>rfl
 |true =>
 cases inP l.2.2 0 1048576 with
 |false=>rfl
 |true =>
 cases h:(ο s l.1 l.2.1.1 != 0) with
 |true =>
  have:ine (ο s l.1 l.2.1.1) 0=true:=h;simp[this]
 |false =>
 have g:ine (ο s l.1 l.2.1.1) 0=false:=h
 have r:((ile (0:Int) (i:Int))&&(ile (i:Int) (Ć b.2.2.2.1)))=true:=by simp[ile,Ć]; omega
 simp only[cJ,ð,g,bW,if_false];rw[jq r,bU]
 have c:∀(k:Int->Nm Int),Ó (fun(v:Int) n=>Ł b.2.2.1 (ß b.2.2.1) l.1 l.2.1.1 l.2.1.2 v (fun u=>n u) (fun z=>ifb (ige z 0) (k 9) (k 0)) (fun _=>k 0)) (0:Int)=if b.2.2.1.any (fun u=>u.1==l.1&&inP u.2 l.2.1.1 l.2.1.2) then k 9 else k 0:=by
  intro k;refine Ę b.2.2.1 _ (fun z=>ifb (ige z 0) (k 9) (k 0)) (k 9) (k 0) (fun j=>?_) (fun j a d ha f=>?_) (fun f=>?_)
  ·have:ige (j:Int) 0=true:=by simp[ige]
   rw[Û this]
  ·try dsimp only
   unfold Ł;rw[Ð d,Æ ha,Ń,À,È d (by omega)]
   cases e:(a.1==l.1) with
   |false =>
    have:ieq a.1 l.1=false:=e;simp[this]
   |true =>
    have:ieq a.1 l.1=true:=e;rw[this]
    cases inP a.2 l.2.1.1 l.2.1.2<;>simp
  ·try dsimp only
   unfold Ł;rw[Ý]
 rw[c];refine cB (Ę (b.2.2.2.1.take i) (fun x=>x.1==l.1&&(decide (x.2.1.1<=l.2.1.2)&&decide (l.2.1.1<=x.2.1.2))) (fun z=>ifb (ige z 0) (some 9) (if b.2.2.1.any (fun u=>u.1==l.1&&inP u.2 l.2.1.1 l.2.1.2) then some 9 else some 0)) (some 9) (if b.2.2.1.any (fun u=>u.1==l.1&&inP u.2 l.2.1.1 l.2.1.2) then some 9 else some 0) (fun j=>?_) (fun j a d ha f=>?_) (fun f=>?_)) ?_
 ·have:ige (j:Int) 0=true:=by simp[ige]
  rw[Û this]
 ·try dsimp only
  unfold fU
  have o:j<=1000:=by rw[bY] at d; omega
  rw[Ð d,Æ ha,È d (by rw[bY]; omega)]
  cases e:(a.1==l.1) with
  |false =>
   have:ieq a.1 l.1=false:=e;simp[this]
  |true =>
   have:ieq a.1 l.1=true:=e;rw[this]
   cases h2:decide (a.2.1.1<=l.2.1.2)<;>cases y:decide (l.2.1.1<=a.2.1.2)<;>simp[ile,h2,y,û]<;>simp_all
 ·try dsimp only
  unfold fU;rw[Ý]
 ·cases List.any (b.2.2.2.1.take i) _<;>cases b.2.2.1.any _<;>rfl
def Ww {l:NO Int} (d:l.length<=1000000) (x:Int):Χ l x=some (match l.findIdx? (·==x) with|some j=>(j:Int)|none=>-1):=by
 unfold Χ nf;refine Eq.trans (Γ l (·==x) some (some (-1)) (fun i a hi ha c=>?_) (fun c=>?_)) ?_
 ·try dsimp only
  unfold ő;rw[Ð hi,Æ ha,È hi (by omega),û]
  by_cases h:x=a
  ·subst h; simp[ieq]
  ·have h2:¬a=x:=fun e=>h e.symm;simp[ieq,h,h2]
 ·try dsimp only
  unfold ő;rw[Ý]
 ·cases l.findIdx? (·==x)<;>rfl
def jb {l:NO Int} (c:l.length<=1000000) (x:Int):ă l x=some (l.contains x):=by
 unfold ă jn;rw[Ww c,À];congr 1
 cases h:l.findIdx? (·==x) with
 |none =>
  have:l.contains x=false:=by
   rw[dA];intro d;have:=cT.1 h x (by simpa using d);simp at this
  rw[this]; rfl
 |some j =>
  obtain⟨e,a,_⟩:=cq.1 h
  have:l.contains x=true:=by
   have h2:l[j]=x:=by simpa using a
   rw[<-h2]; simp
  rw[this];simp[ige]
def â (a b:NO Int):NO Int:=a.filter fun x=>!b.contains x
def mD {a b:NO Int} (ha:a.length<=1000000) (hb:b.length<=1000000):Ĭ a b=some (â a b):=by
 unfold Ĭ P8;rw[É (by omega),Am.iff_true]
 have g:∀z:Nat,z<a.length->â (a.take z) b=a.take z->b.contains (a[z]?.getD 0)=true ->
  Ó (fun(d:(Val (.pair tI (.pair tI (.slice tI))))) f=>f5 b d.1 d.2.1 d.2.2 (fun o n m=>f (o,n,m)) (fun c=>ä ((ile (0:Int) c.1)&&(ile c.1 (Ć c.2))) (ä ((ile (0:Int) c.1)&&(ile c.1 (Ć (List.take (Int.toNat c.1) c.2++List.replicate (List.length c.2-(Int.toNat c.1)) (0:Int)++List.drop ((Int.toNat c.1)+(List.length c.2-(Int.toNat c.1))) c.2)))) (some (List.take (Int.toNat c.1) (List.drop 0 (List.take (Int.toNat c.1) c.2++List.replicate (List.length c.2-(Int.toNat c.1)) (0:Int)++List.drop ((Int.toNat c.1)+(List.length c.2-(Int.toNat c.1))) c.2))))))) ((z:Int),((z:Int)+1),a)=some (â a b):=by
  intro z u R E
  refine ė (fun x:Int×Int×NO Int=>∃i j:Nat,x.1=i/\x.2.1=j/\i<j/\j<=a.length/\x.2.2.length=a.length/\x.2.2.take i=â (a.take j) b/\x.2.2.drop j=a.drop j) (fun x=>a.length-x.2.1.toNat) ?_
   ⟨z,z+1,rfl,by simp,by omega,by omega,rfl,?_,rfl⟩
  ·rintro⟨x1,x2,s⟩ ⟨i,j,H,h2,U,T,K,G,hd⟩;simp only at H h2 K G hd;subst H h2;rcases ce j a.length with D|D
   ·refine .inr ?_
    have C:s[j]?=some a[j]:=by
     have P:(s.drop j)[0]?=(a.drop j)[0]?:=by rw[hd]
     rw[dx,dx] at P;simpa[bG D] using P
    have e:j<s.length:=by omega
    have y:â (a.take (j+1)) b=â (a.take j) b++if b.contains a[j] then[] else[a[j]]:=by
     rw[take_succ (bG D),â,â,List.filter_append];congr 1
     cases h:b.contains a[j] with
     |true=>simp only[dw,h,cJ,bW,if_false,dD,if_true]
     |false=>simp only[dw,h,Bool.not_false,bW,if_false,dD,if_true]
    cases h:b.contains a[j] with
    |true =>
     refine⟨(i,(j:Int)+1,s),⟨i,j+1,rfl,by simp,by omega,by omega,K,?_,?_⟩,by simp; omega,fun F=>?_⟩
     ·rw[y,h]; simpa using G
     ·have:=congrArg (List.drop 1) hd;simpa[eJ,Nat.add_comm] using this
     ·try dsimp only
      unfold f5;rw[Ð e,ς e,Ě C,jb hb,À,h];simp only[Bool.not_true,ð];rw[È e (by omega)]
    |false =>
     have l:i<s.length:=by omega
     refine⟨((i:Int)+1,(j:Int)+1,s.set i a[j]),⟨i+1,j+1,by simp,by simp,by omega,by omega,by simpa using K,?_,?_⟩,by simp; omega,fun F=>?_⟩
     ·show List.take (i+1) (s.set i a[j])=_;rw[y,h,List.take_succ,eF,List.take_set_of_le (bE i),G];simp[l]
     ·show List.drop (j+1) (s.set i a[j])=_;rw[List.drop_set_of_lt (by omega)];have:=congrArg (List.drop 1) hd;simpa[eJ,Nat.add_comm] using this
     ·try dsimp only
      unfold f5;rw[Ð e,ς e,Ě C,jb hb,À,h];simp only[Bool.not_false,gQ];rw[ς l,Ě (List.getElem?_eq_getElem l),È l (by omega),È e (by omega),Int.toNat_natCast]
   ·refine .inl fun F=>?_
    have O:j=s.length:=by omega
    try dsimp only
    unfold f5;rw[O,Ý];dsimp only
    have W:((ile (0:Int) (i:Int))&&(ile (i:Int) (Ć s)))=true:=by simp[ile,Ć]; omega
    rw[jq W]
    have V:((ile (0:Int) (i:Int))&&(ile (i:Int) (Ć (List.take (Int.toNat (i:Int)) s++List.replicate (List.length s-(Int.toNat (i:Int))) (0:Int)++List.drop ((Int.toNat (i:Int))+(List.length s-(Int.toNat (i:Int)))) s))))=true:=by
     simp[ile,Ć]; omega
    rw[jq V,bU,List.drop_zero,bS,dO (by simp; omega),List.take_take,Nat.min_self,G];rw[cA (by omega)]
  ·show List.take z a=â (a.take (z+1)) b;have r:a[z]?=some a[z]:=bG u;rw[take_succ r,â,List.filter_append];rw[r] at E;simp only[dQ] at E
   have:List.filter (fun x=>!b.contains x) [a[z]]=[]:=by simp only[dw,E,cJ,bW,if_false,dD]
   rw[this,b6];exact R.symm
 refine cB (Γ a (fun x=>b.contains x) (fun I=>ifb (ieq I (-1:Int)) (some a) (ck (I+(1:Int)) fun Q=>Ó (fun(d:(Val (.pair tI (.pair tI (.slice tI))))) f=>f5 b d.1 d.2.1 d.2.2 (fun o n m=>f (o,n,m)) (fun c=>ä ((ile (0:Int) c.1)&&(ile c.1 (Ć c.2))) (ä ((ile (0:Int) c.1)&&(ile c.1 (Ć (List.take (Int.toNat c.1) c.2++List.replicate (List.length c.2-(Int.toNat c.1)) (0:Int)++List.drop ((Int.toNat c.1)+(List.length c.2-(Int.toNat c.1))) c.2)))) (some (List.take (Int.toNat c.1) (List.drop 0 (List.take (Int.toNat c.1) c.2++List.replicate (List.length c.2-(Int.toNat c.1)) (0:Int)++List.drop ((Int.toNat c.1)+(List.length c.2-(Int.toNat c.1))) c.2))))))) (I,Q,a))) (some a) (fun i x hi v F=>?_) (fun F=>?_)) ?_
 ·try dsimp only
  unfold oI;rw[Ð hi,ς hi,Ě v,jb hb,À,È hi (by omega),û]
 ·try dsimp only
  unfold oI;rw[Ý]
 ·cases h:a.findIdx? (fun x=>b.contains x) with
  |none =>
   have:â a b=a:=by
    rw[â,List.filter_eq_self];intro x v;have:=cT.1 h x v;simpa using this
   rw[this]
  |some z =>
   obtain⟨u,E,J⟩:=cq.1 h
   have H:ieq (z:Int) (-1)=false:=by simp[ieq]
   try dsimp only
   rw[Ñ H,È u (by omega)];refine g z u ?_ ?_
   ·rw[â,List.filter_eq_self];intro x v;obtain⟨j,D,rfl⟩:=bZ.1 v;rw[bY] at D;rw[fq];have:=J j (by omega);simpa using this
   ·rw[bG u]; exact E
def oc (l:NO Int) (i:Nat) (a:Int):Nm Bool:=if !inP a 1 1099511627776 then some false else if vH (fun x=>x) l i a then some false else none
def kZ (l:NO Int):Bool:=match ĉ (oc l) 0 l with|some _=>false|none=>decide (l.length<=6)
def xB {l:NO Int} (n:l.length<=1000000):iy l=some (kZ l):=by
 unfold iy Hx;refine Eq.trans (Τ l (oc l) some (some (decide (l.length<=6))) (fun i a hi ha e=>?_) (fun e=>?_)) ?_
 ·try dsimp only
  unfold jP;rw[Ð hi,Æ ha,Ń,À];unfold oc
  cases inP a 1 1099511627776 with
  |false=>rfl
  |true =>
   simp only[cJ,ð,bW,if_false];rcases dV i with h0|h0
   ·subst h0
    have:igt ((0:Nat):Int) 0=false:=by simp[igt]
    rw[Ñ this,È hi (by omega)];simp[vH]
   ·obtain⟨q,d⟩:=vW hi h0
    have g:igt (i:Int) 0=true:=by simp[igt]; omega
    rw[Û g,ES h0 (by omega),xF h0 d];simp only[vH,h0,decide_true,Bool.true_and,d,Option.any_some];unfold ile
    cases h2:decide (a<=q) with
    |true=>rfl
    |false =>
     rw[ð,È hi (by omega)];rfl
 ·try dsimp only
  unfold jP;rw[Ý,á];simp[ile];omega
 ·have hb:∀x,ĉ (oc l) 0 l=some x->x=false:=by
   have:∀(m:NO Int) (j:Nat) (x:Bool),ĉ (oc l) j m=some x->x=false:=by
    intro m
    induction m with
    |nil=>intro j x h; cases h
    |cons a m f =>
     intro j x h;unfold ĉ at h
     cases c:oc l j a with
     |none=>rw[c] at h; exact f _ _ h
     |some y =>
      rw[c] at h;cases h;unfold oc at c
      split at c
      ·cases c; rfl
      ·split at c
       ·cases c; rfl
       ·cases c
   exact this l 0
  unfold kZ
  cases h:ĉ (oc l) 0 l with
  |none=>rfl
  |some x=>rw[hb x h]
def KN (l:NO Int):kZ l=true↔(∀x∈l,1<=x/\x<=1099511627776)/\l.Pairwise (·<·)/\l.length<=6:=by
 have h0:ĉ (oc l) 0 l=none↔(∀x∈l,1<=x/\x<=1099511627776)/\l.Pairwise (·<·):=by
  rw[ŋ,<-J0 (fun x=>x) l];constructor
  ·intro h
   have c:∀(j:Nat) (a:Int),l[j]?=some a->inP a 1 1099511627776=true/\vH (fun x=>x) l j a=false:=by
    intro j a ha;have:=h j a ha;rw[Nat.zero_add] at this;unfold oc at this
    split at this
    ·cases this
    ·split at this
     ·cases this
     ·rename_i c h2;exact⟨by simpa using c,by simpa using h2⟩
   refine⟨fun x e=>?_,fun i a ha=>(c i a ha).2⟩;obtain⟨j,f,rfl⟩:=bZ.1 e;have:=(c j l[j] (bG f)).1;simpa[inP] using this
  ·rintro⟨c,h2⟩ j a ha;rw[bX];have d:=c a (bR ha)
   have:inP a 1 1099511627776=true:=by simpa[inP] using d
   simp[oc,this,h2 j a ha]
 unfold kZ
 cases h:ĉ (oc l) 0 l with
 |none =>
  obtain⟨c,h2⟩:=h0.1 h;simp only[decide_eq_true_eq];exact⟨fun d=>⟨c,h2,d⟩,fun d=>d.2.2⟩
 |some x =>
  constructor
  ·intro h2; cases h2
  ·rintro⟨c,h2,d⟩;rw[h0.2 ⟨c,h2⟩] at h; cases h
def Nq {a b:NO Int} (ha:a.length<=1000000) (hb:b.length<=1000000):Đ [a,b]=some (a++b):=by
 have u:∀n:Nat,n<=4000000->∀(f:Int->Nm (NO Int)),ck (n:Int) f=f n:=fun n h f=>Õ (by omega) (by omega) f
 have c:Ó (fun(m:BY) d=>Ā [a,b] (ß [a,b]) m.1 m.2 (fun g e=>d (g,e)) (fun o=>some o)) ((0:Int),([]:NO Int))=some (a++b):=by
  refine ĥ [a,b] (fun i=>([a,b].take i).flatten) (some (a++b)) (f:=fun(m:BY) d=>Ā [a,b] (ß [a,b]) m.1 m.2 (fun g e=>d (g,e)) (fun o=>some o)) rfl (fun i x hi j r=>?_) (fun r=>?_)
  ·try dsimp only
   unfold Ā;rw[Ð hi,Æ j,È hi (by simp),take_succ j,List.flatten_append]
   have:Ü ((List.take i [a,b]).flatten.length+x.length)=true:=by
    refine É ?_
    have C:x.length<=1000000:=by
     have:=bR j;simp at this
     rcases this with rfl|rfl<;>assumption
    have h2:(List.take i [a,b]).flatten.length<=2000000:=by
     have:i=0\/i=1:=by simp at hi; omega
     rcases this with rfl|rfl<;>simp<;>omega
    omega
   rw[jq this];simp
  ·try dsimp only
   unfold Ā;rw[Ý];simp
 unfold Đ lz;refine ė (fun x:Int×Int=>∃i:Nat,i<=2/\x=((([a,b].take i).flatten.length:Int),(i:Int))) (fun x=>2-x.2.toNat) ?_ ⟨0,by omega,rfl⟩;rintro x ⟨i,hi,rfl⟩;rcases Nat.lt_or_ge i 2 with h2|h2
 ·refine .inr ⟨((([a,b].take (i+1)).flatten.length:Int),(i:Int)+1),⟨i+1,h2,by simp⟩,by simp; omega,fun r=>?_⟩;have l:i<[a,b].length:=h2;obtain⟨x,j⟩:∃x,[a,b][i]?=some x:=⟨_,bG l⟩
  have v:x.length<=1000000:=by
   have:=bR j;simp at this
   rcases this with rfl|rfl<;>assumption
  have z:(List.take i [a,b]).flatten.length<=2000000:=by
   have:i=0\/i=1:=by omega
   rcases this with rfl|rfl<;>simp<;>omega
  try dsimp only
  unfold ń;rw[Ð l,Æ j,á]
  have s:(((List.take i [a,b]).flatten.length:Int)+(x.length:Int))=((List.take i [a,b]).flatten.length+x.length:Nat):=by omega
  rw[s,u _ (by omega)]
  have:ilt ((((List.take i [a,b]).flatten.length+x.length:Nat)):Int) 0=false:=by simp[ilt]; omega
  rw[Ñ this,È l (by simp),take_succ j];simp
 ·refine .inl fun r=>?_
  obtain rfl:i=2:=by omega
  try dsimp only
  unfold ń;rw[show((2:Nat):Int)=(([a,b].length:Nat):Int) from rfl,Ý]
  have s:((List.take 2 [a,b]).flatten.length:Int)=((a.length+b.length:Nat):Int):=by simp
  have y:ilt (((a.length+b.length:Nat)):Int) 0=false:=by simp[ilt]; omega
  rw[s];dsimp only;rw[Ñ y,Int.sub_zero,u _ (by omega)];rcases Nat.eq_zero_or_pos (a.length+b.length) with h0|h0
  ·have:igt (((a.length+b.length:Nat)):Int) 0=false:=by simp[igt]; omega
   rw[Ñ this];exact c
  ·have:igt (((a.length+b.length:Nat)):Int) 0=true:=by simp[igt]; omega
   rw[Û this]
   have:((ilt (0:Int) (((a.length+b.length:Nat)):Int))&&(Ü (Int.toNat (((a.length+b.length:Nat)):Int))))=true:=by
    rw[bU,É (by omega)];simp[ilt]; omega
   rw[jq this]
   have:ile 0 (Ć (List.replicate (Int.toNat (((a.length+b.length:Nat)):Int)) (0:Int)))=true:=by simp[ile]
   rw[jq this];exact c
def χ (b:ã) (id a:Int):Nm AD:=b.2.2.2.1.find? fun l=>l.1==id&&inP a l.2.1.1 l.2.1.2
def Jz {α:Type} (p:α->Bool):∀l:NO α,l.find? p=(match l.findIdx? p with|some j=>l[j]?|none=>none)
 |[]=>rfl
 |a::l=>by
  rw[eZ,List.findIdx?_cons]
  cases h:p a with
  |true=>simp
  |false =>
   simp only[bW,if_false];rw[Jz p l]
   cases l.findIdx? p<;>simp
def VY {b:ã} (n:b.2.2.2.1.length<=1000) (id c:Int):jW b id c=some (match χ b id c with|some l=>(l,true)|none=>((0,(0,0),0),false)):=by
 unfold jW Qa;refine Eq.trans (Γ b.2.2.2.1 (fun l=>l.1==id&&inP c l.2.1.1 l.2.1.2) (fun d=>ifb (ilt d (0:Int)) (some (((0:Int),((0:Int),(0:Int)),(0:Int)),false)) (è b.2.2.2.1 d fun m=>some (m,true))) (some ((0,(0,0),0),false)) (fun i a hi ha g=>?_) (fun g=>?_)) ?_
 ·try dsimp only
  unfold oM;rw[Ð hi,Æ ha,Ń,À,È hi (by omega)]
  cases f:(a.1==id) with
  |false =>
   have:ieq a.1 id=false:=f;simp[this]
  |true =>
   have:ieq a.1 id=true:=f;rw[this]
   cases inP c a.2.1.1 a.2.1.2<;>simp
 ·try dsimp only
  unfold oM;rw[Ý]
 ·unfold χ;rw[Jz]
  cases h:b.2.2.2.1.findIdx? (fun l=>l.1==id&&inP c l.2.1.1 l.2.1.2) with
  |none=>rfl
  |some j =>
   obtain⟨e,_,_⟩:=cq.1 h
   have:ilt (j:Int) 0=false:=by simp[ilt]
   try dsimp only
   rw[Ñ this,Æ (bG e),bG e]
def Zs (a:Int):NO Int->NO Int
 |[]=>[a]
 |b::t=>if a<=b then a::b::t else b::Zs a t
def HI:NO Int->NO Int
 |[]=>[]
 |a::t=>Zs a (HI t)
def pS (p:Nm Int):NO Int->NO Int
 |[]=>[]
 |a::t=>if p=some a then pS (some a) t else a::pS (some a) t
def Kz (l:NO Int):NO Int:=pS none (HI l)
def Em (a:Int):∀l,(Zs a l).Perm (a::l)
 |[]=>List.Perm.refl _
 |b::t=>by
  unfold Zs
  split
  ·exact List.Perm.refl _
  ·exact((Em a t).cons b).trans (List.Perm.swap a b t)
def oR:∀l,(HI l).Perm l
 |[]=>List.Perm.refl _
 |a::t=>(Em a _).trans ((oR t).cons a)
def El (a:Int):∀{l:NO Int},l.Pairwise (·<=·)->(Zs a l).Pairwise (·<=·)
 |[],_=>by simp[Zs]
 |b::t,h=>by
  rw[List.pairwise_cons] at h;unfold Zs
  split
  ·rename_i d;refine cf.2 ⟨fun x c=>?_,cf.2 h⟩;rcases bL.1 c with rfl|c
   ·exact d
   ·have:=h.1 x c; omega
  ·rename_i d;refine cf.2 ⟨fun x c=>?_,El a h.2⟩;rcases bL.1 ((Em a t).mem_iff.1 c) with rfl|c
   ·omega
   ·exact h.1 x c
def oQ:∀l:NO Int,(HI l).Pairwise (·<=·)
 |[]=>List.Pairwise.nil
 |a::t=>El a (oQ t)
def WT (l:NO Int):vP l=HI l:=by
 have d:(vP l).Pairwise (·<=·):=by
  have:=List.pairwise_mergeSort (le:=fun a b:Int=>decide (a<=b)) (fun a b c d h2=>by simp at *; omega) (fun a b=>by simp; omega) l
  exact this.imp fun h=>by simpa using h
 exact List.Perm.eq_of_pairwise (le:=(·<=·)) (fun a b _ _ d h2=>by omega) d (oQ l) ((List.mergeSort_perm l _).trans (oR l).symm)
def Gw (a:Int):∀(l:NO Int) (p:Nm Int),pS p (l++[a])=pS p l++(if (match l.getLast? with|some b=>some b|none=>p)=some a then[] else[a])
 |[],p=>by simp only[cS,pS,List.getLast?_nil]; rfl
 |b::t,p=>by
  have d:=Gw a t (some b)
  have e:(match (b::t).getLast? with|some c=>some c|none=>p)=(match t.getLast? with|some c=>some c|none=>some b):=by
   cases t with
   |nil=>rfl
   |cons c t =>
    rw[List.getLast?_cons_cons]
    cases h:(c::t).getLast? with
    |none=>simp at h
    |some x=>rfl
  rw[e];simp only[cO,pS,d]
  split<;>simp
def uN (l:NO Int):∀m,m<=l.length->Lib.compactUpTo l.toArray m=pS none (l.take m)
 |0,_=>by simp[Lib.compactUpTo,pS]
 |m+1,h=>by
  have d:m<l.length:=h;rw[Lib.compactUpTo_succ,uN l m (by omega),take_succ (bG d),Gw];congr 1
  have e:l.toArray[m]! = l[m]:=by simp[getElem!_pos,d]
  rw[e];unfold Lib.keeps;rw[e]
  cases m with
  |zero=>simp
  |succ m =>
   have c:m<l.length:=by omega
   have g:l.toArray[m+1-1]! = l[m]:=by simp[getElem!_pos,c]
   rw[g]
   have f:(l.take (m+1)).getLast?=some l[m]:=by rw[take_succ (bG c),List.getLast?_append]; rfl
   rw[f]
   by_cases a:l[m+1]=l[m]
   ·simp[a]
   ·have:¬l[m]=l[m+1]:=fun h=>a h.symm;simp[a,this]
def OD (l:NO Int):sT l=pS none l:=by
 unfold sT Lib.compact;rw[uN l l.length (Nat.le_refl _),List.take_length]
def Tu (l:NO Int):sT (vP l)=Kz l:=by rw[WT,OD]; rfl
def Kj:∀{l:NO Int} {p:Nm Int} {x:Int},p≠some x->(x∈pS p l↔x∈l)
 |[],_,_,_=>Iff.rfl
 |a::t,p,x,f=>by
  unfold pS
  by_cases c:x=a
  ·subst c;rw[if_neg f]; simp
  ·have d:=Kj (l:=t) (p:=some a) (x:=x) (fun e=>c (by cases e; rfl))
   split<;>simp[d,c]
def Pd:∀{l:NO Int} {p:Nm Int},l.Pairwise (·<=·)->(∀q,p=some q->∀x∈l,q<=x)->(pS p l).Pairwise (·<·)/\∀q,p=some q->∀x∈pS p l,q<x
 |[],p,_,_=>⟨List.Pairwise.nil,fun _ _ _ h=>by cases h⟩
 |a::t,p,h,i=>by
  rw[List.pairwise_cons] at h;obtain⟨g,f⟩:=Pd (l:=t) (p:=some a) h.2 (fun q d x c=>by cases d; exact h.1 x c);unfold pS
  split
  ·rename_i e;exact⟨g,fun q d x c=>by rw[e] at d; cases d; exact f _ rfl x c⟩
  ·rename_i e;refine⟨cf.2 ⟨fun x c=>f _ rfl x c,g⟩,fun q d x c=>?_⟩;have:=i q d a (by simp);have j:q≠a:=fun h=>e (by rw[d,h]);rcases bL.1 c with rfl|c
   ·omega
   ·have:=f _ rfl x c; omega
def rU {l:NO Int} {x:Int}:x∈Kz l↔x∈l:=by
 unfold Kz;rw[Kj (by simp),(oR l).mem_iff]
def uT (l:NO Int):(Kz l).Pairwise (·<·):=(Pd (oQ l) (fun q a=>by cases a)).1
def Kk:∀(l:NO Int) (p:Nm Int),(pS p l).length<=l.length
 |[],_=>bE _
 |a::t,p=>by
  have:=Kk t (some a);unfold pS
  split<;>simp<;>omega
def vS (l:NO Int):(Kz l).length<=l.length:=by
 unfold Kz;have:=Kk (HI l) none
 rwa [(oR l).length_eq] at this
def OW {l m:NO Int} (f:l.Pairwise (·<·)) (e:m.Pairwise (·<·)) (h:∀x,x∈l↔x∈m):l=m:=by
 induction l generalizing m with
 |nil =>
  cases m with
  |nil=>rfl
  |cons a t=>have:=(h a).2 (by simp); cases this
 |cons a t i =>
  rw[cf] at f
  cases m with
  |nil=>have:=(h a).1 (by simp); cases this
  |cons b u =>
   rw[cf] at e
   have g:a=b:=by
    rcases bL.1 ((h a).1 (by simp)) with c|c
    ·exact c
    ·rcases bL.1 ((h b).2 (by simp)) with h2|h2
     ·exact h2.symm
     ·have:=e.1 a c; have:=f.1 b h2; omega
   subst g;rw[i f.2 e.2 fun x=>?_];constructor
   ·intro d;rcases bL.1 ((h x).1 (by simp[d])) with c|c
    ·have:=f.1 x d; omega
    ·exact c
   ·intro d;rcases bL.1 ((h x).2 (by simp[d])) with c|c
    ·have:=e.1 x d; omega
    ·exact c
def tD (b:ã) (s:NO (Int×æ)) (c:Cmp):Int :=
 if (c.2.2.1++c.2.2.2.1).any (fun id=>ο s id c.2.1==5) then 5 else
 if (c.2.2.1++c.2.2.2.1).any (fun id=>ο s id c.2.1==4) then 4 else
 if (c.2.2.1++c.2.2.2.1).any (fun id=>(χ b id c.2.1).isSome) then 9 else
 if 1<(â c.2.2.1 c.2.2.2.1).length then 1 else if 1<(â c.2.2.2.1 c.2.2.1).length then 1 else
 if (â c.2.2.1 c.2.2.2.1).length+(â c.2.2.2.1 c.2.2.1).length=0 then 1 else 0
def vf (c:Cmp):Bool :=
 inP c.1 1 1099511627776&&(yd c.2.1&&(inP c.2.2.2.2.1 (-1125899906842624) 1125899906842624&&(inP c.2.2.2.2.2.1 0 1073741824&&(Ÿ c.2.2.2.2.2.2 (-10000) 10000&&(kZ c.2.2.1&&kZ c.2.2.2.1)))))
def gV (b:ã) (s:NO (Int×æ)) (i:Nat) (c:Cmp):Int :=
 if !vf c then 1 else if (b.2.2.2.2.1.take i).any (fun x=>x.1==c.1) then 6 else tD b s c
def kI (a b:NO Int):(â a b).length<=a.length:=cZ _ _
set_option maxHeartbeats 1000000 in
def EU {b:ã} (V:b.2.2.2.2.1.length<=1000) (Q:b.2.2.2.1.length<=1000) (s:NO (Int×æ)) {i:Nat} {c:Cmp} (X:c.2.2.1.length<=100000) (W:c.2.2.2.1.length<=100000)
 (H:b.2.2.2.2.1[i]?=some c):Ė b s i=some (gV b s i c):=by
 have hi:i<b.2.2.2.2.1.length:=(List.getElem?_eq_some_iff.1 H).1;unfold Ė jf gV vf;rw[Æ H,Ń,À]
 cases inP c.1 1 1099511627776 with
 |false=>rfl
 |true =>
 rw[xC,À]
 cases yd c.2.1 with
 |false=>rfl
 |true =>
 rw[Ń,À]
 cases inP c.2.2.2.2.1 (-1125899906842624) 1125899906842624 with
 |false=>rfl
 |true =>
 rw[Ń,À]
 cases inP c.2.2.2.2.2.1 0 1073741824 with
 |false=>rfl
 |true =>
 rw[xD,À]
 cases Ÿ c.2.2.2.2.2.2 (-10000) 10000 with
 |false=>rfl
 |true =>
 rw[xB (by omega),À]
 cases kZ c.2.2.1 with
 |false=>rfl
 |true =>
 rw[xB (by omega),À]
 cases kZ c.2.2.2.1 with
 |false=>rfl
 |true =>
 have R:((ile (0:Int) (i:Int))&&(ile (i:Int) (Ć b.2.2.2.2.1)))=true:=by simp[ile,Ć]; omega
 simp only[cJ,ð,Bool.and_self,bW,if_false];rw[jq R,bU]
 -- what comes behind the IDs
 have rest:(Â (Đ ([c.2.2.1,c.2.2.2.1])) fun g=>Ó (fun(C:Int) n=>Ĝ s g (ß ([(5:Int),(4:Int)])) c.2.1 ([(5:Int),(4:Int)]) C (fun E=>n E) (fun y=>some y) (fun _=>Ó (fun(D:Int) o=>ě g (ß g) b.1.1 b.1.2 b.2.1 b.2.2.1 b.2.2.2.1 b.2.2.2.2.1 b.2.2.2.2.2 c.2.1 D (fun F=>o F) (fun v=>some v) (fun _=>Â (Ĭ c.2.2.1 c.2.2.2.1) fun f=>Â (Ĭ c.2.2.2.1 c.2.2.1) fun e=>ifb (igt (ß f) (1:Int)) (some (1:Int)) (ifb (igt (ß e) (1:Int)) (some (1:Int)) (ck ((ß f)+(ß e)) fun h=>ifb (ieq h (0:Int)) (some (1:Int)) (some (0:Int)))))) (0:Int))) (0:Int))=some (tD b s c):=by
  rw[Nq (by omega) (by omega),À]
  have I:(c.2.2.1++c.2.2.2.1).length<=200000:=by simp; omega
  have last:(Â (Ĭ c.2.2.1 c.2.2.2.1) fun f=>Â (Ĭ c.2.2.2.1 c.2.2.1) fun e=>ifb (igt (ß f) (1:Int)) (some (1:Int)) (ifb (igt (ß e) (1:Int)) (some (1:Int)) (ck ((ß f)+(ß e)) fun h=>ifb (ieq h (0:Int)) (some (1:Int)) (some (0:Int))))) =
   some (if 1<(â c.2.2.1 c.2.2.2.1).length then 1 else if 1<(â c.2.2.2.1 c.2.2.1).length then 1 else if (â c.2.2.1 c.2.2.2.1).length+(â c.2.2.2.1 c.2.2.1).length=0 then 1 else 0):=by
   rw[mD (by omega) (by omega),À,mD (by omega) (by omega),À];have U:=kI c.2.2.1 c.2.2.2.1;have T:=kI c.2.2.2.1 c.2.2.1;rw[á,á,Õ (by omega) (by omega)]
   by_cases O:1<(â c.2.2.1 c.2.2.2.1).length
   ·rw[Û (by simp[igt]; omega),if_pos O]
   rw[Ñ (by simp[igt]; omega),if_neg O]
   by_cases K:1<(â c.2.2.2.1 c.2.2.1).length
   ·rw[Û (by simp[igt]; omega),if_pos K]
   rw[Ñ (by simp[igt]; omega),if_neg K]
   by_cases J:(â c.2.2.1 c.2.2.2.1).length+(â c.2.2.2.1 c.2.2.1).length=0
   ·rw[Û (by simp[ieq]; omega),if_pos J]
   rw[Ñ (by simp[ieq]; omega),if_neg J]
  refine cB (Τ [(5:Int),4] (fun _ d=>if (c.2.2.1++c.2.2.2.1).any (fun id=>ο s id c.2.1==d) then some d else none) some (some (if (c.2.2.1++c.2.2.2.1).any (fun id=>(χ b id c.2.1).isSome) then 9 else if 1<(â c.2.2.1 c.2.2.2.1).length then 1 else if 1<(â c.2.2.2.1 c.2.2.1).length then 1 else if (â c.2.2.1 c.2.2.2.1).length+(â c.2.2.2.1 c.2.2.1).length=0 then 1 else 0)) (fun j d m P u=>?_) (fun u=>?_)) ?_
  ·try dsimp only
   unfold Ĝ;rw[Ð m,ς m,Ě P];refine Eq.trans (Ę (c.2.2.1++c.2.2.2.1) (fun id=>ο s id c.2.1==d) (fun _=>some d) (some d) (u ((j:Int)+1)) (fun _=>rfl) (fun k a r ha l=>?_) (fun l=>?_)) ?_
   ·try dsimp only
    unfold ŝ;rw[Ð r,Æ ha,I1,À,È r (by omega),û]
   ·try dsimp only
    unfold ŝ;rw[Ý,È m (by simp)]
   ·cases List.any (c.2.2.1++c.2.2.2.1) (fun id=>ο s id c.2.1==d)<;>rfl
  ·try dsimp only
   unfold Ĝ;rw[Ý];refine Eq.trans (Ę (c.2.2.1++c.2.2.2.1) (fun id=>(χ b id c.2.1).isSome) (fun _=>some 9) (some 9) (some (if 1<(â c.2.2.1 c.2.2.2.1).length then 1 else if 1<(â c.2.2.2.1 c.2.2.1).length then 1 else if (â c.2.2.1 c.2.2.2.1).length+(â c.2.2.2.1 c.2.2.1).length=0 then 1 else 0)) (fun _=>rfl) (fun k a r ha l=>?_) (fun l=>?_)) ?_
   ·try dsimp only
    unfold ě;have G:=VY Q a c.2.1;rw[Ð r,Æ ha,È r (by omega)];rw[show jW ((b.1.1,b.1.2),b.2.1,b.2.2.1,b.2.2.2.1,b.2.2.2.2.1,b.2.2.2.2.2) a c.2.1=jW b a c.2.1 from rfl,G,À]
    cases χ b a c.2.1<;>rfl
   ·try dsimp only
    unfold ě;rw[Ý,last]
   ·cases List.any (c.2.2.1++c.2.2.2.1) (fun id=>(χ b id c.2.1).isSome)<;>rfl
  ·unfold tD ĉ ĉ ĉ
   try dsimp only
   cases List.any (c.2.2.1++c.2.2.2.1) (fun id=>ο s id c.2.1==5) with
   |true=>rfl
   |false =>
   cases List.any (c.2.2.1++c.2.2.2.1) (fun id=>ο s id c.2.1==4)<;>rfl
 refine cB (Ę (b.2.2.2.2.1.take i) (fun x=>x.1==c.1) (fun z=>ifb (ige z (0:Int)) (some 6) (some (tD b s c))) (some 6) (some (tD b s c)) (fun j=>?_) (fun j a m ha u=>?_) (fun u=>?_)) ?_
 ·have:ige (j:Int) 0=true:=by simp[ige]
  rw[Û this]
 ·try dsimp only
  unfold Ş;rw[rest,Ð m,Æ ha,È m (by rw[List.length_take]; omega),û]
 ·try dsimp only
  unfold Ş;rw[Ý,rest]
 ·cases List.any (b.2.2.2.2.1.take i) (fun x=>x.1==c.1)<;>rfl
def Oz (b:ã) (g:æ):NO Int :=
 [g.2.1]++(b.2.2.2.2.1.filter fun c=>!(c.2.2.1.contains g.1==c.2.2.2.1.contains g.1)).map (fun c=>c.2.1)++(b.2.2.2.2.2.filter fun n=>n.1==g.1).map (fun n=>n.2)
def ê (b:ã) (g:æ):NO Int:=Kz (Oz b g)
structure ŏ (b:ã):Prop where
 gauges:b.2.1.length<=1000
 uses:b.2.2.1.length<=1000
 loans:b.2.2.2.1.length<=1000
 compares:b.2.2.2.2.1.length<=1000
 looks:b.2.2.2.2.2.length<=1000
 piles:∀c∈b.2.2.2.2.1,c.2.2.1.length<=1000/\c.2.2.2.1.length<=1000
def Ku (l:NO Int):(vP l).length=l.length:=List.length_mergeSort l
def MP {b:ã} (a:ŏ b) (g:æ):(Oz b g).length<=2001:=by
 have f:=a.compares;have h2:=a.looks;have e:=cZ (fun c:Cmp=>!(c.2.2.1.contains g.1==c.2.2.2.1.contains g.1)) b.2.2.2.2.1;have d:=cZ (fun n:Int×Int=>n.1==g.1) b.2.2.2.2.2;simp only[Oz,bI,cr,cm];omega
def Vh {b:ã} (d:ŏ b) (g:æ):jV b g=some (ê b g):=by
 unfold jV P9;have v:=MP d g
 have hd:(ê b g).length<=2001:=by
  unfold ê;have:=vS (Oz b g);omega
 have o:=d.compares;have m:=d.looks;refine ĥ b.2.2.2.2.1 (fun i=>[g.2.1]++((b.2.2.2.2.1.take i).filter fun c=>!(c.2.2.1.contains g.1==c.2.2.2.1.contains g.1)).map (fun c=>c.2.1)) _ rfl (fun i c hi f e=>?_) (fun e=>?_)
 ·try dsimp only
  unfold oK;obtain⟨u,s⟩:=d.piles c (List.mem_of_getElem? f);rw[Ð hi,Æ f,jb (by omega),À,jb (by omega),À,È hi (by omega),È hi (by omega),take_succ f,List.filter_append,List.map_append]
  have a:([g.2.1]++((b.2.2.2.2.1.take i).filter fun c=>!(c.2.2.1.contains g.1==c.2.2.2.1.contains g.1)).map (fun c=>c.2.1)).length<=1001:=by
   have l:=cZ (fun c:Cmp=>!(c.2.2.1.contains g.1==c.2.2.2.1.contains g.1)) (b.2.2.2.2.1.take i);rw[bY] at l;simp only[bI,cr,cm];omega
  rw[É (by simp only[cm]; omega),Am.iff_true]
  cases h:(c.2.2.1.contains g.1==c.2.2.2.1.contains g.1) with
  |true=>simp only[cJ,ð,dw,h,bW,if_false,dD,dH,b6]
  |false=>simp only[Bool.not_false,gQ,dw,h,if_true,dD,cE,dH,bS]
 ·try dsimp only
  unfold oK;rw[Ý,List.take_length];refine ĥ b.2.2.2.2.2 (fun i=>[g.2.1]++(b.2.2.2.2.1.filter fun c=>!(c.2.2.1.contains g.1==c.2.2.2.1.contains g.1)).map (fun c=>c.2.1)++((b.2.2.2.2.2.take i).filter fun n=>n.1==g.1).map (fun n=>n.2)) _ (by simp) (fun i n hi j e=>?_) (fun e=>?_)
  ·try dsimp only
   unfold oJ;rw[Ð hi,Æ j,È hi (by omega),È hi (by omega),take_succ j,List.filter_append,List.map_append]
   have a:([g.2.1]++(b.2.2.2.2.1.filter fun c=>!(c.2.2.1.contains g.1==c.2.2.2.1.contains g.1)).map (fun c=>c.2.1)++((b.2.2.2.2.2.take i).filter fun n=>n.1==g.1).map (fun n=>n.2)).length<=2001:=by
    have l:=cZ (fun c:Cmp=>!(c.2.2.1.contains g.1==c.2.2.2.1.contains g.1)) b.2.2.2.2.1;have r:=cZ (fun n:Int×Int=>n.1==g.1) (b.2.2.2.2.2.take i);rw[bY] at r;simp only[bI,cr,cm];omega
   rw[É (by simp only[cm]; omega),Am.iff_true]
   cases h:(n.1==g.1) with
   |true =>
    have:ieq n.1 g.1=true:=h;simp[h,this]
   |false =>
    have:ieq n.1 g.1=false:=h;simp[h,this]
  ·try dsimp only
   unfold oJ;rw[Ý,List.take_length];rw[show([g.2.1]++(b.2.2.2.2.1.filter fun c=>!(c.2.2.1.contains g.1==c.2.2.2.1.contains g.1)).map (fun c=>c.2.1)++(b.2.2.2.2.2.filter fun n=>n.1==g.1).map (fun n=>n.2))=Oz b g from rfl];dsimp only;rw[É (by omega),Am.iff_true,É (by rw[Ku]; omega),Am.iff_true,Tu];rfl
def Ø (b:ã):NO (Int×Int):=b.2.1.flatMap fun g=>(ê b g).map fun d=>((g.1,d):Int×Int)
def yc {b:ã} (a:ŏ b) (g:æ):(ê b g).length<=2001:=by
 unfold ê;have:=vS (Oz b g);have:=MP a g;omega
def oU {α β:Type} (f:α->NO β) (n:Nat) (h:∀a,(f a).length<=n):∀l:NO α,(l.flatMap f).length<=l.length*n
 |[]=>by simp
 |a::l=>by
  have:=oU f n h l;have:=h a;simp only[cj,bI,bO,b7,dG];omega
def IT {b:ã} (f:ŏ b):kR b=some (Ø b):=by
 unfold kR Ma;have s:=f.gauges
 have a:∀l:NO æ,(l.flatMap fun g=>(ê b g).map fun d=>((g.1,d):Int×Int)).length<=l.length*2001:=fun l =>
  oU _ 2001 (fun g=>by rw[cr]; exact yc f g) l
 refine ĥ b.2.1 (fun i=>(b.2.1.take i).flatMap fun g=>(ê b g).map fun d=>((g.1,d):Int×Int)) _ rfl (fun i g hi c n=>?_) (fun n=>?_)
 ·try dsimp only
  unfold lX;rw[Ð hi,Æ c];rw[show jV ((b.1.1,b.1.2),b.2.1,b.2.2.1,b.2.2.2.1,b.2.2.2.2.1,b.2.2.2.2.2) g=jV b g from rfl,Vh f,À];have hd:=yc f g;have r:=a (b.2.1.take i)
  have o:(b.2.1.take i).length<=1000:=by rw[bY]; omega
  refine ĥ (ê b g) (fun j=>((b.2.1.take i).flatMap fun g=>(ê b g).map fun d=>((g.1,d):Int×Int))++((ê b g).take j).map fun d=>((g.1,d):Int×Int)) _ (by simp) (fun j d m e h=>?_) (fun h=>?_)
  ·try dsimp only
   unfold lW;rw[Ð m,Æ e,È m (by omega),take_succ e,List.map_append];rw[É (by simp only[List.length_append,List.length_map,List.length_take,List.length_singleton]; omega),Am.iff_true];simp
  ·try dsimp only
   unfold lW;rw[Ý,List.take_length];dsimp only;rw[È hi (by omega),take_succ c,List.flatMap_append];simp
 ·try dsimp only
  unfold lX;rw[Ý,List.take_length];rfl
def pm (b:ã) (s:NO (Int×æ)):NO Int :=
 b.2.2.1.map (fun u=>Q8 s u.1 u.2)++(b.2.2.2.1.mapIdx (fun i l=>Eg b s i l)++(b.2.2.2.2.1.mapIdx (fun i c=>gV b s i c)++b.2.2.2.2.2.map (fun u=>Q8 s u.1 u.2)))
def Lu {α:Type} {f:Int->Nm Int} {g:Nat->α->Int} (l:NO α) (h:∀(i:Nat) (a:α),l[i]?=some a->f i=some (g i a)):CO f (pQ l.length)=some (l.mapIdx g):=by
 have j:∀i,i<l.length->f (i:Int)=some ((l.mapIdx g)[i]?.getD 0):=by
  intro i hi;rw[h i l[i] (bG hi)];simp[hi]
 have h2:∀x∈pQ l.length,f x=some ((l.mapIdx g)[x.toNat]?.getD 0):=by
  intro x c;unfold pQ at c;obtain⟨i,hi,rfl⟩:=List.mem_map.1 c;rw[j i (by simpa using hi)];rfl
 rw[wt h2];congr 1;refine List.ext_getElem (by simp[pQ]) fun i m e=>?_
 have d:i<l.length:=by simpa using e
 simp[pQ,d]
def SX (b:ã):Prop:=∀c∈b.2.2.2.2.1,c.2.2.1.length<=100000/\c.2.2.2.1.length<=100000
def ŏ.w {b:ã} (h:ŏ b):SX b:=fun c a=>by have:=h.piles c a; omega
def Ă {l:NO Int} (h:kZ l=true):l.length<=6:=by
 unfold kZ at h
 split at h
 ·cases h
 ·exact of_decide_eq_true h
def CH {c:Cmp} (h:vf c=true):c.2.2.1.length<=6/\c.2.2.2.1.length<=6:=by
 simp only[vf,bH] at h;exact⟨Ă h.2.2.2.2.2.1,Ă h.2.2.2.2.2.2⟩
def Xb {b:ã} (g:b.2.2.1.length<=1000) (e:b.2.2.2.1.length<=1000) (h:b.2.2.2.2.1.length<=1000) (d:SX b) (s:NO (Int×æ)):iY b s=some (pm b s):=by
 unfold iY pm
 rw[wt (fun u _=>KS s u.1 u.2),À,Lu b.2.2.2.1 (fun i l f=>MX e g s f),À,
  Lu b.2.2.2.2.1 (fun i c a=>EU h e s (d c (bR a)).1 (d c (bR a)).2 a),À,wt (fun u _=>KS s u.1 u.2),À]
def ë (b:ã):Int :=
 if !Ÿ b.1 0 1000000 then 1 else
 if 12<b.2.1.length then 2 else if 40<b.2.2.1.length then 2 else if 12<b.2.2.2.1.length then 2 else if 40<b.2.2.2.2.1.length then 2 else if 10<b.2.2.2.2.2.length then 2 else
 if Ε b != 0 then Ε b else
 match (pm b (Ġ b)).find? (fun e=>e != 0) with
 |some e=>e
 |none=>if 59<(Ø b).length then 2 else if 300<2*b.2.1.length+2*((Ø b).length-b.2.1.length:Int)+2*b.2.2.2.2.1.length then 2 else 0
def G4 {b:ã} (a:ŏ b):(Ø b).length<=2001000:=by
 have:=oU (fun g:æ=>(ê b g).map fun d=>((g.1,d):Int×Int)) 2001 (fun g=>by rw[List.length_map]; exact yc a g) b.2.1;have h2:=a.gauges;unfold Ø;omega
def Nr {b:ã} (a:SX b) (s:∀g∈b.2.1,I64 g.2.2.2.2.1.1):Ē b=some (ë b):=by
 unfold Ē Ed ë;rw[xD,À]
 cases Ÿ b.1 0 1000000 with
 |false=>rfl
 |true =>
 rw[Ñ (show(!true)=false from rfl),if_neg (by simp)];simp only[á]
 by_cases r:12<b.2.1.length
 ·rw[Û (by simp[igt]; omega),if_pos r]
 rw[Ñ (by simp[igt]; omega),if_neg r]
 by_cases o:40<b.2.2.1.length
 ·rw[Û (by simp[igt]; omega),if_pos o]
 rw[Ñ (by simp[igt]; omega),if_neg o]
 by_cases n:12<b.2.2.2.1.length
 ·rw[Û (by simp[igt]; omega),if_pos n]
 rw[Ñ (by simp[igt]; omega),if_neg n]
 by_cases m:40<b.2.2.2.2.1.length
 ·rw[Û (by simp[igt]; omega),if_pos m]
 rw[Ñ (by simp[igt]; omega),if_neg m]
 by_cases l:10<b.2.2.2.2.2.length
 ·rw[Û (by simp[igt]; omega),if_pos l]
 rw[Ñ (by simp[igt]; omega),if_neg l]
 have f:b.2.1.length<=1000:=by omega
 rw[Gi s f,À]
 cases d:(Ε b != 0) with
 |true =>
  have:ine (Ε b) 0=true:=d;rw[Û this,if_pos rfl]
 |false =>
 have:ine (Ε b) 0=false:=d;rw[Ñ this,if_neg (by simp)];rw[mM f,À];unfold KK;rw[Xb (by omega) (by omega) (by omega) a,À]
 cases v:(pm b (Ġ b)).find? (fun e=>e != 0) with
 |some e=>rfl
 |none =>
 dsimp only
 have a:ŏ b:=⟨by omega,by omega,by omega,by omega,by omega,fun c y=>by
  obtain⟨i,hi,rfl⟩:=bZ.1 y
  have:=cR.1 v (gV b (Ġ b) i b.2.2.2.2.1[i]) (by
   unfold pm
   exact cd _ (cd _ (cn _ (fg.2 ⟨i,hi,rfl⟩))))
  unfold gV at this
  split at this
  ·simp at this
  ·rename_i u;have:=CH (by simpa using u)
   omega⟩
 have z:=G4 a;rw[IT a,À]
 by_cases j:59<(Ø b).length
 ·rw[Û (by simp[igt]; omega),if_pos j]
 rw[Ñ (by simp[igt]; omega),if_neg j];rw[Õ (by omega) (by omega),Õ (by omega) (by omega),Õ (by omega) (by omega),Õ (by omega) (by omega),Õ (by omega) (by omega),Õ (by omega) (by omega)]
 by_cases h:300<2*b.2.1.length+2*((Ø b).length-b.2.1.length:Int)+2*b.2.2.2.2.1.length
 ·rw[Û (by simp[igt]; omega),if_pos h]
 rw[Ñ (by simp[igt]; omega),if_neg h]
def mn {b:ã} (a:ŏ b) (c:∀g∈b.2.1,I64 g.2.2.2.2.1.1):Ē b=some (ë b):=Nr a.w c
def wrapU {n:Nat} (h:n<18446744073709551616):IntKind.wrap .u64 (n:Int)=n:=by
 simp only[IntKind.wrap,IntKind.bits,IntKind.signed];simp;omega
def wrapI {n:Nat} (h:n<9223372036854775808):IntKind.wrap .i64 (n:Int)=n:=by
 simp only[IntKind.wrap,IntKind.bits,IntKind.signed];simp;omega
def f0 (l:NO (Int×Int)) (x d:Int):Nm Nat:=l.findIdx? fun n=>decide (x=n.1)&&decide (d=n.2)
def Wv {l:NO (Int×Int)} (e:l.length<=100000000) (x d:Int):ď l (x,d)=some (match f0 l x d with|some j=>(j:Int)|none=>-1):=by
 unfold ď Ż;refine Eq.trans (Γ l (fun n=>decide (x=n.1)&&decide (d=n.2)) some (some (-1)) (fun i a hi ha c=>?_) (fun c=>?_)) ?_
 ·try dsimp only
  unfold ą;rw[Ð hi,Æ ha,È hi (by omega),û,Bool.and_true]
 ·try dsimp only
  unfold ą;rw[Ý]
 ·unfold f0
  cases List.findIdx? (fun n=>decide (x=n.1)&&decide (d=n.2)) l<;>rfl
def atP (l:NO (Int×Int)) (p:NO Int) (d:Int):Int :=
 match p with
 |[]=>0
 |x::_=>match f0 l x d with|some j=>(j:Int)+1|none=>0
def mZ {l:NO (Int×Int)} {x d:Int} {j:Nat} (h:f0 l x d=some j):j<l.length/\l[j]?=some (x,d):=by
 unfold f0 at h;obtain⟨c,a,_⟩:=List.findIdx?_eq_some_iff_getElem.1 h;refine⟨c,?_⟩;rw[List.getElem?_eq_getElem c];simp only[Bool.and_eq_true,decide_eq_true_eq] at a;congr 1;exact Prod.ext a.1.symm a.2.symm
def V4 (m:Maker) (p:NO Int) (d:Int) (e:m.2.1.length<=100000000):ŗ m p d=some (atP m.2.1 p d):=by
 unfold ŗ Aj atP
 cases p with
 |nil=>simp[á,ieq]
 |cons x p =>
  have h:ieq (ß (x::p)) 0=false:=by
   rw[á];simp only[ieq,bO,beq_eq_false_iff_ne,ne_eq];omega
  rw[h,ð,show(0:Int)=((0:Nat):Int) from rfl,Æ (a:=x) rfl,Wv e,À]
  cases c:f0 m.2.1 x d with
  |none=>dsimp only; rw[Õ (by omega) (by omega)]; simp only[c]; rfl
  |some j =>
   have:=(mZ c).1;dsimp only;rw[Õ (by omega) (by omega)];simp only[c]
def vV (s:NO (Int×æ)) (p:NO Int):Int×Int :=
 match p with
 |[]=>(0,1)
 |x::_=>match vh (k:=tI) (v:=Ô) x s with
  |some g=>g.2.2.2.2.1
  |none=>(0,0)
def KJ (s:NO (Int×æ)) (p:NO Int):ū s p=some (vV s p):=by
 unfold ū pw vV
 cases p with
 |nil=>simp[á,ieq]
 |cons x p =>
  have h:ieq (ß (x::p)) 0=false:=by
   rw[á];simp only[ieq,bO,beq_eq_false_iff_ne,ne_eq];omega
  rw[h,ð,show(0:Int)=((0:Nat):Int) from rfl,Æ (a:=x) rfl]
  cases c:vh (k:=tI) (v:=Ô) x s with
  |none=>simp only[Nx,c]
  |some g=>simp only[Nx,c]
def Pa {l:NO (Int×Int)} (d:∀r∈l,I64 r.1) (e:l.length<=1000):fN l=some (if l.any (fun r=>!yE r) then 1 else 0):=by
 unfold fN LZ;refine Eq.trans (Ę l (fun r=>!yE r) (fun _=>some 1) (some 1) (some 0) (fun _=>rfl) (fun i a hi ha c=>?_) (fun c=>?_)) ?_
 ·try dsimp only
  unfold lV;rw[Ð hi,Æ ha,J6 (d a (List.mem_of_getElem? ha)),À,È hi (by omega),û]
 ·try dsimp only
  unfold lV;rw[Ý]
 ·cases l.any (fun r=>!yE r)<;>rfl
def jd (n d:Int):Int×Int:=(n / (Nat.gcd n.natAbs d.natAbs:Nat),d / (Nat.gcd n.natAbs d.natAbs:Nat))
def fQ (r:Int×Int):yE r=true↔1<=r.2/\r.2<=2147483647/\(r.1.natAbs:Int)<=2147483647/\Nat.gcd r.1.natAbs r.2.natAbs=1:=by
 simp[yE]
def rW {n d:Int} (hd:0<d):∃g:Nat,0<g/\g=Nat.gcd n.natAbs d.natAbs/\n=(jd n d).1*g/\d=(jd n d).2*g:=by
 have a:0<Nat.gcd n.natAbs d.natAbs:=Nat.gcd_pos_of_pos_right _ (by omega);refine⟨_,a,rfl,?_,?_⟩
 ·exact(Int.ediv_mul_cancel (Int.ofNat_dvd_left.2 (Nat.gcd_dvd_left _ _))).symm
 ·exact(Int.ediv_mul_cancel (Int.ofNat_dvd_left.2 (Nat.gcd_dvd_right _ _))).symm
def Iq {n d:Int} (hd:0<d) (m:n.natAbs<=2147483647) (f:d<=2147483647):yE (jd n d)=true:=by
 obtain⟨g,h0,e,j,h2⟩:=rW (n:=n) hd;rw[fQ]
 have c:n.natAbs=(jd n d).1.natAbs*g:=by conv=>lhs; rw[j]; rw[dP,dS]
 have a:d.natAbs=(jd n d).2.natAbs*g:=by conv=>lhs; rw[h2]; rw[dP,dS]
 have l:0<(jd n d).2:=by
  rcases Int.lt_trichotomy (jd n d).2 0 with h|h|h
  ·have:=Int.mul_neg_of_neg_of_pos h (show(0:Int)<g by omega); omega
  ·rw[h] at h2; simp at h2; omega
  ·exact h
 have r:(jd n d).1.natAbs<=n.natAbs:=by rw[c]; exact ey _ h0
 have o:(jd n d).2.natAbs<=d.natAbs:=by rw[a]; exact ey _ h0
 refine⟨by omega,by omega,by omega,?_⟩;have:=Nat.gcd_mul_right (jd n d).1.natAbs g (jd n d).2.natAbs;rw[<-c,<-a,<-e] at this
 have i:(Nat.gcd (jd n d).1.natAbs (jd n d).2.natAbs)*g=1*g:=by omega
 exact Nat.eq_of_mul_eq_mul_right h0 i
def GH {n d:Int} (hd:0<d) (l:n.natAbs<=2147483647) (e:d<=2147483647):kQ n d=some (jd n d,0):=by
 obtain⟨g,h0,m,o,h2⟩:=rW (n:=n) hd;have C:=(fQ _).1 (Iq hd l e);unfold kQ DJ;rw[Im ⟨by omega,by omega⟩,À,Im ⟨by omega,by omega⟩,À,YK,À,<-m]
 have y:n.natAbs=(jd n d).1.natAbs*g:=by conv=>lhs; rw[o]; rw[dP,dS]
 have v:d.natAbs=(jd n d).2.natAbs*g:=by conv=>lhs; rw[h2]; rw[dP,dS]
 have j:Int.tdiv (n.natAbs:Int) (g:Int)=((jd n d).1.natAbs:Int):=by
  rw[y,fE]; exact eY _ (by omega)
 have i:Int.tdiv (d.natAbs:Int) (g:Int)=((jd n d).2.natAbs:Int):=by
  rw[v,fE]; exact eY _ (by omega)
 have z:š (g:Int) 0=false:=by simp[š]; omega
 have s:igt ((jd n d).1.natAbs:Int) 2147483647=false:=by simp[igt]; omega
 have r:igt ((jd n d).2.natAbs:Int) 2147483647=false:=by simp[igt]; omega
 rw[Ñ z,Ñ z,j,i,wrapU (by omega),wrapU (by omega),wrapI (by omega),wrapI (by omega),Ñ s,Ñ r]
 have f:ilt d 0=false:=by simp[ilt]; omega
 rw[f]
 have u:((jd n d).2.natAbs:Int)=(jd n d).2:=by omega
 rw[u]
 by_cases c:n<0
 ·have a:ilt n 0=true:=by simp[ilt,c]
  have:(jd n d).1<=0:=by
   rcases Int.lt_or_le 0 (jd n d).1 with h|h
   ·have:=Int.mul_pos h (show(0:Int)<g by omega); omega
   ·exact h
  rw[a];rw[show(!true==false)=true from rfl,gQ,Õ (by omega) (by omega)]
  have:0-((jd n d).1.natAbs:Int)=(jd n d).1:=by omega
  rw[this]
 ·have a:ilt n 0=false:=by simp[ilt]; omega
  have:0<=(jd n d).1:=by
   rcases Int.lt_or_le (jd n d).1 0 with h|h
   ·have:=Int.mul_neg_of_neg_of_pos h (show(0:Int)<g by omega); omega
   ·exact h
  rw[a];rw[show(!false==false)=false from rfl,ð]
  have:((jd n d).1.natAbs:Int)=(jd n d).1:=by omega
  rw[this]
structure lg (r:Int×Int) (n d:Int):Prop where
 rat:yE r=true
 num : -n<=r.1/\r.1<=n
 den:r.2<=d
def lg.pos {r:Int×Int} {n d:Int} (h:lg r n d):1<=r.2:=((fQ r).1 h.rat).1
def lg.i64 {r:Int×Int} {n d:Int} (h:lg r n d):I64 r.1:=by
 have:=((fQ r).1 h.rat).2.2.1;exact⟨by omega,by omega⟩
def Tg {x y:Int×Int} (d:yE x=true) (c:yE y=true):fN [x,y]=some 0:=by
 rw[Pa]
 ·simp[d,c]
 ·intro r a
  have:yE r=true:=by simp at a; rcases a with rfl|rfl<;>assumption
  have:=((fQ r).1 this).2.2.1;exact⟨by omega,by omega⟩
 ·simp
def iB {a b m n:Int} (g : -m<=a/\a<=m) (h2 : -n<=b/\b<=n) : -(m*n)<=a*b/\a*b<=m*n:=by
 have d:0<=m:=by omega
 have c:0<=n:=by omega
 have f:(a*b).natAbs<=(m*n).natAbs:=by
  rw[dP,dP];exact eG (by omega) (by omega)
 have e:0<=m*n:=eI d c;omega
def subP (x y:Int×Int):Int×Int:=jd (x.1*y.2-y.1*x.2) (x.2*y.2)
def yy {x y:Int×Int} (c:lg x 1000 100) (a:lg y 1000 100):(x.1*y.2-y.1*x.2).natAbs<=200000/\0<x.2*y.2/\x.2*y.2<=10000:=by
 have f:=iB c.num (show -100<=y.2/\y.2<=100 from⟨by have:=a.pos; omega,a.den⟩);have h2:=iB a.num (show -100<=x.2/\x.2<=100 from⟨by have:=c.pos; omega,c.den⟩);have e:=iB (show -100<=x.2/\x.2<=100 from⟨by have:=c.pos; omega,c.den⟩) (show -100<=y.2/\y.2<=100 from⟨by have:=a.pos; omega,a.den⟩);have d:=Int.mul_pos (show 0<x.2 by have:=c.pos; omega) (show 0<y.2 by have:=a.pos; omega);refine⟨by omega,d,by omega⟩
def Sub_ok {x y:Int×Int} (c:lg x 1000 100) (a:lg y 1000 100):JF x y=some (subP x y,0):=by
 obtain⟨f,d,b3⟩:=yy c a;have e:=iB c.num (show -100<=y.2/\y.2<=100 from⟨by have:=a.pos; omega,a.den⟩);have h2:=iB a.num (show -100<=x.2/\x.2<=100 from⟨by have:=c.pos; omega,c.den⟩);unfold JF Un;rw[Tg c.rat a.rat,À];rw[show ine (0:Int) 0=false from rfl,ð,Õ (by omega) (by omega),Õ (by omega) (by omega),Õ (by omega) (by omega),Õ (by omega) (by omega),GH d (by omega) (by omega),À];rfl
def TF {n d:Int} (hd:0<d):(jd n d).1.natAbs<=n.natAbs/\(jd n d).2<=d:=by
 obtain⟨g,h0,h,a,h2⟩:=rW (n:=n) hd
 have f:n.natAbs=(jd n d).1.natAbs*g:=by conv=>lhs; rw[a]; rw[dP,dS]
 have e:d.natAbs=(jd n d).2.natAbs*g:=by conv=>lhs; rw[h2]; rw[dP,dS]
 have c:(jd n d).1.natAbs<=n.natAbs:=by rw[f]; exact ey _ h0
 have i:(jd n d).2.natAbs<=d.natAbs:=by rw[e]; exact ey _ h0
 exact⟨c,by omega⟩
def Ck {x y:Int×Int} (d:lg x 1000 100) (c:lg y 1000 100):lg (subP x y) 200000 10000:=by
 obtain⟨g,a,b3⟩:=yy d c;obtain⟨f,e⟩:=TF (n:=x.1*y.2-y.1*x.2) a;exact⟨Iq a (by omega) (by omega),by unfold subP; omega,by unfold subP; omega⟩
def wo (k:Int×Int) (n:Int):Int×Int:=jd (k.1*n) k.2
def yO {k:Int×Int} (c:lg k 200000 10000) {n:Int} (a : -10000<=n/\n<=10000):(k.1*n).natAbs<=2000000000:=by
 have:=iB c.num a;omega
def Om {n:Int} (a : -10000<=n/\n<=10000):yE (n,1)=true:=by
 rw[fQ];exact⟨by simp,by simp,by simp; omega,by simp⟩
def YV {k:Int×Int} (a:lg k 200000 10000) {n:Int} (c : -10000<=n/\n<=10000):EN k (n,1)=some (wo k n,0):=by
 have b:=yO a c;have p:=a.pos;have q:=a.den;unfold EN Up;rw[Tg a.rat (Om c),À];rw[show ine (0:Int) 0=false from rfl,ð,Õ (by simp only; omega) (by simp only; omega),Int.mul_one,Õ (by omega) (by omega),GH (by omega) (by simp only; omega) (by omega),À];rfl
def IX {k:Int×Int} (a:lg k 200000 10000) {n:Int} (c : -10000<=n/\n<=10000):lg (wo k n) 2000000000 10000:=by
 have b:=yO a c;have p:=a.pos;have q:=a.den;obtain⟨e,d⟩:=TF (n:=k.1*n) (show 0<k.2 by omega);exact⟨Iq (by omega) (by omega) (by omega),by unfold wo; omega,by unfold wo; omega⟩
def YP (x y:Int×Int):Int:=if x=y then 0 else if x.1*y.2<y.1*x.2 then -1 else if y.1*x.2<x.1*y.2 then 1 else 0
def YO {x y:Int×Int} {m d:Int} (a:lg x m d) (c:lg y m d) (e:m<=2000000000) (hd:d<=10000):EL x y=some (YP x y):=by
 have g:=iB a.num (show -d<=y.2/\y.2<=d from⟨by have:=c.pos; have:=c.den; omega,c.den⟩);have h2:=iB c.num (show -d<=x.2/\x.2<=d from⟨by have:=a.pos; have:=a.den; omega,a.den⟩);have h0:0<=m/\0<=d:=⟨by have:=a.num; omega,by have:=a.pos; have:=a.den; omega⟩;have f:m*d<=2000000000*10000:=Int.mul_le_mul e hd h0.2 (by omega);unfold EL Ul YP;rw[Õ (by omega) (by omega),Õ (by omega) (by omega)];simp only[û,Bool.and_true,Bool.and_eq_true,decide_eq_true_eq,š,ilt,igt,gt_iff_lt];have:(x.1=y.1/\x.2=y.2)↔x=y:=⟨fun h=>Prod.ext h.1 h.2,fun h=>by rw[h]; exact⟨rfl,rfl⟩⟩;simp only[this]
 (repeat' split)<;>rfl
def IK (k:Int×Int) (heat:Int×Int):(Int×Int)×(Int×Int) :=
 if 0<YP (wo k heat.1) (wo k heat.2) then(wo k heat.2,wo k heat.1) else(wo k heat.1,wo k heat.2)
def Zf {k heat:Int×Int} (a:lg k 200000 10000) (d:Ÿ heat (-10000) 10000=true):jU k heat=some (IK k heat):=by
 simp only[Ÿ,Bool.and_eq_true,decide_eq_true_eq] at d;obtain⟨g,h2,f⟩:=d;have n1 : -10000<=heat.1/\heat.1<=10000:=⟨by omega,by omega⟩;have c : -10000<=heat.2/\heat.2<=10000:=⟨by omega,by omega⟩;have r1:lg (heat.1,1) 10000 10000:=⟨Om n1,n1,by simp⟩;have r2:lg (heat.2,1) 10000 10000:=⟨Om c,c,by simp⟩;unfold jU wY EM DL mH un;rw[Tg r1.rat r2.rat,À];have:ieq 0 0=true:=rfl;rw[Û this,YO r1 r2 (by omega) (by omega),À]
 have e:ile (YP (heat.1,1) (heat.2,1)) 0=true:=by
  unfold YP;simp only[ile,decide_eq_true_eq,Int.mul_one]
  split
  ·omega
  ·split
   ·omega
   ·rw[if_neg (by omega)]; omega
 rw[e,À];simp only[Bool.not_true,ð];rw[J6 a.i64,a.rat,À];simp only[Bool.not_true,ð];rw[YV a n1,À,YV a c,À];simp only[show ine (0:Int) 0=false from rfl,ð];rw[YO (IX a n1) (IX a c) (by omega) (by omega),À];unfold IK;rw[û]
 by_cases h:0<YP (wo k heat.1) (wo k heat.2)
 ·rw[if_pos h,if_pos (by simpa[igt] using h)]; rfl
 ·rw[if_neg h,if_neg (by simpa[igt] using h)]; rfl
def rateK (s:NO (Int×æ)) (c:Cmp):Int×Int:=subP (vV s (â c.2.2.1 c.2.2.2.1)) (vV s (â c.2.2.2.1 c.2.2.1))
def ĝ (b:ã) (c:Cmp):(Int×Int)×(Int×Int):=IK (rateK (Ġ b) c) c.2.2.2.2.2.2
def MA {b:ã} (d:ŏ b) {c:Cmp} (g:c.2.2.1.length<=1000) (f:c.2.2.2.1.length<=1000)
 (a:lg (vV (Ġ b) (â c.2.2.1 c.2.2.2.1)) 1000 100) (h2:lg (vV (Ġ b) (â c.2.2.2.1 c.2.2.1)) 1000 100) (e:Ÿ c.2.2.2.2.2.2 (-10000) 10000=true):iz b c=some (ĝ b c):=by
 unfold iz Hz;rw[mM d.gauges,À,mD (by omega) (by omega),À,KJ,À,mD (by omega) (by omega),À,KJ,À];unfold o8 wZ;rw[Sub_ok a h2,À,À]
 try dsimp only
 rw[Zf (Ck a h2) e,À];rfl
def gj (b:ã) (c:Cmp):Int×Int :=
 (((c.2.2.1.length-1:Nat):Int)*b.1.1-((c.2.2.2.1.length-1:Nat):Int)*b.1.2,((c.2.2.1.length-1:Nat):Int)*b.1.2-((c.2.2.2.1.length-1:Nat):Int)*b.1.1)
def Qv {b:ã} {c:Cmp} (d:c.2.2.1.length<=1000) (a:c.2.2.2.1.length<=1000) (h:0<=b.1.1) (h2:b.1.1<=1000000) (g:0<=b.1.2) (f:b.1.2<=1000000):nV b c=some (gj b c):=by
 unfold nV Me gj
 have e:∀n:Nat,HL 0 ((n:Int)-1)=((n-1:Nat):Int):=by
  intro n;unfold HL
  split<;>omega
 have bd:∀(n:Nat) (x:Int),n<=1000->0<=x->x<=1000000->0<=((n-1:Nat):Int)*x/\((n-1:Nat):Int)*x<=1000000000:=by
  intro n x j h0 i;refine⟨eI (by omega) h0,?_⟩;have:=dR (show((n-1:Nat):Int)<=1000 by omega) i h0 (by omega);omega
 have o:=bd _ _ d h h2;have m:=bd _ _ d g f;have b3:=bd _ _ a h h2;have l:=bd _ _ a g f;simp only[á];rw[Õ (by omega) (by omega),Õ (by omega) (by omega)];simp only[e];rw[Õ (by omega) (by omega),Õ (by omega) (by omega),Õ (by omega) (by omega),Õ (by omega) (by omega),Õ (by omega) (by omega),Õ (by omega) (by omega)]
def Jy {n d:Int} (hd:1<=d) (f : -4000000000<=n/\n<=4000000000):nQ n d=some (n / d):=by
 unfold nQ DK
 have z:š d 0=false:=by simp[š]; omega
 rw[Ñ z];have t:=Int.mul_tdiv_add_tmod n d
 have g : -4000000000<=Int.tdiv n d/\Int.tdiv n d<=4000000000:=by
  have:=Int.natAbs_tdiv_le_natAbs n d;omega
 rw[Õ (by omega) (by omega),Ñ z,û]
 by_cases h:Int.tmod n d<0
 ·rw[if_pos (by simpa[ilt] using h),Õ (by omega) (by omega)];congr 1
  have e : -d<Int.tmod n d:=by
   have c:=fF n d;have a:=fj n.natAbs (show 0<d.natAbs by omega);omega
  refine(ez (by omega)).2 ⟨?_,?_⟩ |>.symm
  ·rw[Int.sub_mul,dT]; omega
  ·rw[Int.sub_mul,dT (Int.tdiv n d)]; omega
 ·rw[if_neg (by simpa[ilt] using h)];congr 1
  have e:Int.tmod n d<d:=by
   have c:=fF n d;have a:=fj n.natAbs (show 0<d.natAbs by omega);omega
  refine(ez (by omega)).2 ⟨?_,?_⟩ |>.symm
  ·rw[dT]; omega
  ·rw[dT (Int.tdiv n d)]; omega
def Yv {x:Int×Int} (c:yE x=true):fN [x]=some 0:=by
 rw[Pa]
 ·simp[c]
 ·intro r a
  have:yE r=true:=by simp at a; subst a; assumption
  have:=((fQ r).1 this).2.2.1;exact⟨by omega,by omega⟩
 ·simp
def Bz (r:Int×Int):Int:=-(-r.1 / r.2)
def Q3 {r:Int×Int} (h:yE r=true):rA r=some (r.1 / r.2,0):=by
 unfold rA L5;have:=(fQ r).1 h;rw[Yv h,À];rw[show ine (0:Int) 0=false from rfl,ð,Jy (by omega) (by omega),À]
def zq {n d:Int} (hd:1<=d):(n / d).natAbs<=n.natAbs:=by
 exact Int.natAbs_ediv_le_natAbs n d
def Wz {r:Int×Int} (h:yE r=true):xU r=some (Bz r,0):=by
 unfold xU P3 Bz;have:=(fQ r).1 h;rw[Yv h,À];rw[show ine (0:Int) 0=false from rfl,ð,Õ (by omega) (by omega),Jy (by omega) (by omega),À];have hb:=zq (n:=0-r.1) (show 1<=r.2 by omega);rw[Õ (by omega) (by omega),Int.zero_sub,Int.zero_sub]
def vT (b:ã) (c:Cmp):Int×Int :=
 (c.2.2.2.2.1-c.2.2.2.2.2.1-(gj b c).2-(ĝ b c).2.1 / (ĝ b c).2.2,c.2.2.2.2.1+c.2.2.2.2.2.1-(gj b c).1-Bz (ĝ b c).1)
structure ť (b:ã):Prop where
 film:0<=b.1.1/\b.1.1<=b.1.2/\b.1.2<=1000000
 nG:b.2.1.length<=12
 nU:b.2.2.1.length<=40
 nL:b.2.2.2.1.length<=12
 nC:b.2.2.2.2.1.length<=40
 nK:b.2.2.2.2.2.length<=10
 gauge:∀g∈b.2.1,i6 g=true
 ids:b.2.1.Pairwise fun a b=>a.1<b.1
 uses:∀u∈b.2.2.1,Q8 (Ġ b) u.1 u.2=0
 loans:∀i l,b.2.2.2.1[i]?=some l->Eg b (Ġ b) i l=0
 compares:∀i c,b.2.2.2.2.1[i]?=some c->gV b (Ġ b) i c=0
 looks:∀u∈b.2.2.2.2.2,Q8 (Ġ b) u.1 u.2=0
 nodes:(Ø b).length<=59
 links:2*(Ø b).length+2*b.2.2.2.2.1.length<=300
def oS (b:ã):Ε b=0↔(∀g∈b.2.1,i6 g=true)/\b.2.1.Pairwise fun a b=>a.1<b.1:=by
 have h0:ĉ (jr b.2.1) 0 b.2.1=none↔(∀g∈b.2.1,i6 g=true)/\b.2.1.Pairwise fun a b=>a.1<b.1:=by
  rw[ŋ,<-J0 (fun g:æ=>g.1) b.2.1];constructor
  ·intro h
   have d:∀(j:Nat) (a:æ),b.2.1[j]?=some a->i6 a=true/\vH (fun g:æ=>g.1) b.2.1 j a=false:=by
    intro j a ha;have:=h j a ha;rw[Nat.zero_add] at this;unfold jr at this
    split at this
    ·cases this
    ·split at this
     ·cases this
     ·rename_i d h2;exact⟨by simpa using d,by simpa using h2⟩
   refine⟨fun x l=>?_,fun i a ha=>(d i a ha).2⟩;obtain⟨j,n,rfl⟩:=bZ.1 l;exact(d j _ (bG n)).1
  ·rintro⟨d,h2⟩ j a ha;rw[bX];simp[jr,d a (bR ha),h2 j a ha]
 rw[<-h0];unfold Ε
 cases h:ĉ (jr b.2.1) 0 b.2.1 with
 |none=>simp
 |some e =>
  have:∀(m:NO æ) (j:Nat) (x:Int),ĉ (jr b.2.1) j m=some x->x≠0:=by
   intro m
   induction m with
   |nil=>intro j x h; cases h
   |cons a m f =>
    intro j x h;unfold ĉ at h
    cases c:jr b.2.1 j a with
    |none=>rw[c] at h; exact f _ _ h
    |some y =>
     rw[c] at h;cases h;unfold jr at c
     split at c
     ·cases c; omega
     ·split at c
      ·cases c; omega
      ·cases c
  simp[this _ _ _ h]
def Ĵ (b:ã):ë b=0↔ť b:=by
 unfold ë;constructor
 ·intro h
  split at h
  ·omega
  rename_i G
  (repeat' split at h)<;>try omega
  ·rename_i g
   have n:Ε b≠0:=by simpa using g
   exact(n h).elim
  ·rename_i o;have:=fc o;rename_i e;simp at this;exact(this h).elim
  ·rename_i D C z y v g e o s r
   have m:Ε b=0:=by simpa using g
   obtain⟨I,H⟩:=(oS b).1 m
   have a:∀x∈pm b (Ġ b),x=0:=fun x j=>by
    have:=cR.1 o x j;simpa using this
   simp only[pm,bJ] at a
   have f:Ÿ b.1 0 1000000=true:=by simpa using G
   simp only[Ÿ,bH,decide_eq_true_eq] at f;refine⟨⟨f.1,f.2.1,f.2.2⟩,by omega,by omega,by omega,by omega,by omega,I,H,fun u d=>a _ (.inl (dc.2 ⟨u,d,rfl⟩)),fun i l E=>?_,fun i c F=>?_,fun u d=>a _ (.inr (.inr (.inr (dc.2 ⟨u,d,rfl⟩)))),by omega,by omega⟩
   ·obtain⟨hi,rfl⟩:=bN.1 E;exact a _ (.inr (.inl (fg.2 ⟨i,hi,rfl⟩)))
   ·obtain⟨hi,rfl⟩:=bN.1 F;exact a _ (.inr (.inr (.inl (fg.2 ⟨i,hi,rfl⟩))))
 ·intro h
  have f:Ÿ b.1 0 1000000=true:=by simp[Ÿ,h.film.1,h.film.2.1,h.film.2.2]
  have g:Ε b=0:=(oS b).2 ⟨h.gauge,h.ids⟩
  have a:(pm b (Ġ b)).find? (fun e=>e != 0)=none:=by
   rw[cR];intro x j;simp only[pm,bJ,dc,fg] at j
   have:x=0:=by
    rcases j with⟨u,d,rfl⟩|⟨i,hi,rfl⟩|⟨i,hi,rfl⟩|⟨u,d,rfl⟩
    ·exact h.uses u d
    ·exact h.loans i _ (bG hi)
    ·exact h.compares i _ (bG hi)
    ·exact h.looks u d
   simp[this]
  have:=h.nG; have:=h.nU; have:=h.nL; have:=h.nC; have:=h.nK; have:=h.nodes; have:=h.links;rw[f,g,a];simp only[cJ,bW,if_false,bne_self_eq_false];rw[if_neg (by omega),if_neg (by omega),if_neg (by omega),if_neg (by omega),if_neg (by omega),if_neg (by omega),if_neg (by omega)]
section
variable {b:ã}
def ť.nums (h:ť b) {c:Cmp} (a:c∈b.2.2.2.2.1):vf c=true:=by
 obtain⟨i,hi,rfl⟩:=List.mem_iff_getElem.1 a;have:=h.compares i _ (List.getElem?_eq_getElem hi);unfold gV at this
 split at this
 ·omega
 ·rename_i h; simpa using h
def ť.pilesOf (h:ť b) {c:Cmp} (a:c∈b.2.2.2.2.1):tD b (Ġ b) c=0:=by
 obtain⟨i,hi,rfl⟩:=List.mem_iff_getElem.1 a;have:=h.compares i _ (List.getElem?_eq_getElem hi);unfold gV at this
 split at this
 ·omega
 ·split at this
  ·omega
  ·exact this
def Ŕ (c:Cmp):vf c=true↔(1<=c.1/\c.1<=1099511627776)/\(0<=c.2.1/\c.2.1<=20000)/\(-1125899906842624<=c.2.2.2.2.1/\c.2.2.2.2.1<=1125899906842624)/\(0<=c.2.2.2.2.2.1/\c.2.2.2.2.2.1<=1073741824)/\Ÿ c.2.2.2.2.2.2 (-10000) 10000=true/\kZ c.2.2.1=true/\kZ c.2.2.2.1=true:=by
 simp[vf,inP,yd,and_assoc]
def ť.size (h:ť b):ŏ b:=by
 have i:=h.nG; have h2:=h.nU; have g:=h.nL; have f:=h.nC; have e:=h.nK;refine⟨by omega,by omega,by omega,by omega,by omega,fun c d=>?_⟩;have:=(Ŕ c).1 (h.nums d);have a:=Ă this.2.2.2.2.2.1;have b:=Ă this.2.2.2.2.2.2;omega
def nH (g:æ):i6 g=true↔yE g.2.2.2.2.1=true/\(-1000<=g.2.2.2.2.1.1/\g.2.2.2.2.1.1<=1000)/\g.2.2.2.2.1.2<=100/\(1<=g.1/\g.1<=1099511627776)/\(0<=g.2.1/\g.2.1<=20000)/\(1<=g.2.2.1/\g.2.2.1<=1125899906842624)/\(-1073741824<=g.2.2.2.1.1/\g.2.2.2.1.1<=g.2.2.2.1.2/\g.2.2.2.1.2<=1073741824)/\(0<=g.2.2.2.2.2/\g.2.2.2.2.2<=1048576):=by
 simp[i6,inP,yd,Ÿ,and_assoc]
def i7 {id:Int} {g:æ} (h:ķ b id=some g):g∈b.2.1/\g.1=id:=by
 unfold ķ at h;exact⟨List.mem_of_find?_eq_some h,by simpa using List.find?_some h⟩
def Er (hi:b.2.1.Pairwise fun a b=>a.1<b.1) {g:æ} (c:g∈b.2.1):ķ b g.1=some g:=by
 unfold ķ
 induction d:b.2.1 generalizing b with
 |nil=>rw[d] at c; cases c
 |cons a t e =>
  rw[d] at c hi;rw[cf] at hi;rw[eZ];rcases bL.1 c with rfl|c
  ·simp
  ·have f:=hi.1 g c
   have:(a.1==g.1)=false:=by simp; omega
   rw[this];have:=e (b:=(b.1,t,b.2.2)) hi.2 c rfl;exact this
def yP (h:ť b) {id a:Int} (c:ο (Ġ b) id a=0):∃g,ķ b id=some g/\g.2.1<=a:=by
 unfold ο at c;rw[m8 h.ids] at c
 split at c
 ·rename_i g d
  split at c
  ·omega
  ·exact⟨g,d,by omega⟩
 ·omega
def CP (s:NO (Int×æ)) (id a:Int):ο s id a=0\/ο s id a=4\/ο s id a=5:=by
 unfold ο
 split
 ·split<;>simp
 ·simp
def ť.pile (h:ť b) {c:Cmp} (j:c∈b.2.2.2.2.1) {x:Int} (d:x∈c.2.2.1++c.2.2.2.1):(∃g,ķ b x=some g/\g.2.1<=c.2.1)/\χ b x c.2.1=none:=by
 have a:=h.pilesOf j;unfold tD at a
 split at a
 ·omega
 rename_i m
 split at a
 ·omega
 rename_i n
 split at a
 ·omega
 rename_i l;have f:=(dz.1 (dA.2 m)) x d;have i:=(dz.1 (dA.2 n)) x d;have e:=(dz.1 (dA.2 l)) x d;simp at f i e;refine⟨yP h ?_,e⟩;rcases CP (Ġ b) x c.2.1 with h0|h0|h0
 ·exact h0
 ·exact(i h0).elim
 ·exact(f h0).elim
def ť.lefts (h:ť b) {c:Cmp} (d:c∈b.2.2.2.2.1):(â c.2.2.1 c.2.2.2.1).length<=1/\(â c.2.2.2.1 c.2.2.1).length<=1/\(â c.2.2.1 c.2.2.2.1).length+(â c.2.2.2.1 c.2.2.1).length≠0:=by
 have a:=h.pilesOf d;unfold tD at a
 (repeat' split at a)<;>first|omega|exact⟨by omega,by omega,by omega⟩
def iW {a c:NO Int} {x:Int}:x∈â a c↔x∈a/\x∉c:=by
 simp[â]
def ť.rate (h:ť b) {p:NO Int} (c:∀x∈p,∃g,ķ b x=some g):lg (vV (Ġ b) p) 1000 100:=by
 unfold vV
 cases p with
 |nil =>
  have:lg (0,1) 1000 100:=⟨by decide,by decide,by decide⟩;exact this
 |cons x t =>
  obtain⟨g,a⟩:=c x (by simp)
  try dsimp only
  rw[m8 h.ids,a];have:=(nH g).1 (h.gauge g (i7 a).1);exact⟨this.1,this.2.1,this.2.2.1⟩
def ť.rates (h:ť b) {c:Cmp} (e:c∈b.2.2.2.2.1):lg (vV (Ġ b) (â c.2.2.1 c.2.2.2.1)) 1000 100/\lg (vV (Ġ b) (â c.2.2.2.1 c.2.2.1)) 1000 100:=by
 constructor
 ·exact h.rate fun x a=>by
   obtain⟨⟨g,d,_⟩,_⟩:=h.pile e (cn _ (iW.1 a).1);exact⟨g,d⟩
 ·exact h.rate fun x a=>by
   obtain⟨⟨g,d,_⟩,_⟩:=h.pile e (cd _ (iW.1 a).1);exact⟨g,d⟩
def ť.growth (h:ť b) {c:Cmp} (e:c∈b.2.2.2.2.1):iz b c=some (ĝ b c):=by
 obtain⟨r1,r2⟩:=h.rates e;have d:=(Ŕ c).1 (h.nums e);have a:=Ă d.2.2.2.2.2.1;have b:=Ă d.2.2.2.2.2.2;exact MA h.size (by omega) (by omega) r1 r2 d.2.2.2.2.1
def ť.films (h:ť b) {c:Cmp} (d:c.2.2.1.length<=1000) (a:c.2.2.2.1.length<=1000):nV b c=some (gj b c):=by
 have:=h.film;exact Qv d a (by omega) (by omega) (by omega) (by omega)
def IJ {k heat:Int×Int} (a:lg k 200000 10000) (c:Ÿ heat (-10000) 10000=true):lg (IK k heat).1 2000000000 10000/\lg (IK k heat).2 2000000000 10000:=by
 simp only[Ÿ,Bool.and_eq_true,decide_eq_true_eq] at c;have r1:=IX a (n:=heat.1) ⟨by omega,by omega⟩;have r2:=IX a (n:=heat.2) ⟨by omega,by omega⟩;unfold IK
 split
 ·exact⟨r2,r1⟩
 ·exact⟨r1,r2⟩
def oV {c:Cmp} (d:c.2.2.1.length<=1000) (a:c.2.2.2.1.length<=1000) (g:0<=b.1.1) (h2:b.1.1<=1000000) (f:0<=b.1.2) (e:b.1.2<=1000000) :
 (-1000000000<=(gj b c).1/\(gj b c).1<=1000000000)/\(-1000000000<=(gj b c).2/\(gj b c).2<=1000000000):=by
 have bd:∀(n:Nat) (x:Int),n<=1000->0<=x->x<=1000000->0<=((n-1:Nat):Int)*x/\((n-1:Nat):Int)*x<=1000000000:=by
  intro n x i h0 h;refine⟨eI (by omega) h0,?_⟩;have:=dR (show((n-1:Nat):Int)<=1000 by omega) h h0 (by omega);omega
 have m:=bd _ _ d g h2;have l:=bd _ _ d f e;have b3:=bd _ _ a g h2;have j:=bd _ _ a f e;unfold gj
 try dsimp only
 omega
def oT {r:Int×Int} (h:lg r 2000000000 10000) : -2000000000<=r.1 / r.2/\r.1 / r.2<=2000000000:=by
 have:=zq (n:=r.1) h.pos;have:=h.num;omega
def sW {r:Int×Int} (h:lg r 2000000000 10000) : -2000000000<=Bz r/\Bz r<=2000000000:=by
 have:=zq (n:=-r.1) h.pos;have:=h.num;unfold Bz;omega
def ť.says (h:ť b) {c:Cmp} (d:c∈b.2.2.2.2.1):oZ b c=some (vT b c):=by
 obtain⟨r1,r2⟩:=h.rates d;have a:=(Ŕ c).1 (h.nums d);have ha:=Ă a.2.2.2.2.2.1;have hb:=Ă a.2.2.2.2.2.2;have m:=h.film;obtain⟨i,g⟩:=IJ (Ck r1 r2) a.2.2.2.2.1;have n:=oV (b:=b) (c:=c) (by omega) (by omega) (by omega) (by omega) (by omega) (by omega);have f:lg (ĝ b c).1 2000000000 10000:=i;have e:lg (ĝ b c).2 2000000000 10000:=g;have r:=sW f;have o:=oT e;unfold oZ P4 vT;rw[h.growth d,À,h.films (by omega) (by omega),À,Q3 e.rat,À,Wz f.rat,À]
 try dsimp only
 have l:=a.2.2.1;have j:=a.2.2.2.1;rw[Õ (by omega) (by omega),Õ (by omega) (by omega),Õ (by omega) (by omega),Õ (by omega) (by omega),Õ (by omega) (by omega),Õ (by omega) (by omega)]
end
def ú (l:AD) (f t:Int):Int:=min l.2.1.2 (t-1)-max l.2.1.1 f+1
def ċ (id f t:Int):NO AD->Int
 |[]=>0
 |l::r=>(if l.1=id/\0<ú l f t then ú l f t*l.2.2 else 0)+ċ id f t r
def rl (id f t:Int):∀(x y:NO AD),ċ id f t (x++y)=ċ id f t x+ċ id f t y
 |[],y=>by simp[ċ]
 |l::r,y=>by
  simp only[cO,ċ,rl id f t r y];omega
def Ű (b:ã) (id f t:Int):NO Int:=(b.2.2.1.filter fun u=>u.1==id&&inP u.2 f (t-1)).map fun u=>u.2
def la (b:ã) (g:æ) (f t:Int):Int:=ċ g.1 f t b.2.2.2.1+(Kz (Ű b g.1 f t)).length*g.2.2.2.2.2
def UU (a c:Int):Kc a c=min a c:=by unfold Kc; split<;>omega
def Zt (a c:Int):HL a c=max a c:=by unfold HL; split<;>omega
def za {b:ã} (h:ť b) {l:AD} (c:l∈b.2.2.2.1):(0<=l.2.1.1/\l.2.1.1<=l.2.1.2/\l.2.1.2<=20000)/\(0<=l.2.2/\l.2.2<=1048576):=by
 obtain⟨i,hi,rfl⟩:=List.mem_iff_getElem.1 c;have:=h.loans i _ (List.getElem?_eq_getElem hi);unfold Eg at this
 split at this
 ·omega
 rename_i a
 split at this
 ·omega
 rename_i h2;simp only[cF,Bool.not_eq_false,Ÿ,inP,bH,decide_eq_true_eq] at a h2;exact⟨a,h2⟩
def HF {l:AD} (h:(0<=l.2.1.1/\l.2.1.1<=l.2.1.2/\l.2.1.2<=20000)/\(0<=l.2.2/\l.2.2<=1048576)) {f t:Int} (a:0<=f) (hd:0<ú l f t):0<=ú l f t*l.2.2/\ú l f t*l.2.2<=20001*1048576:=by
 refine⟨Int.mul_nonneg (by omega) h.2.1,Int.mul_le_mul ?_ h.2.2 h.2.1 (by omega)⟩;unfold ú;omega
def mC {id f t:Int} (a:0<=f):∀{x:NO AD},(∀l∈x,(0<=l.2.1.1/\l.2.1.1<=l.2.1.2/\l.2.1.2<=20000)/\(0<=l.2.2/\l.2.2<=1048576))->0<=ċ id f t x/\ċ id f t x<=x.length*(20001*1048576)
 |[],_=>by simp[ċ]
 |l::r,h=>by
  have e:=mC (id:=id) (t:=t) a (x:=r) fun l c=>h l (by simp[c]);simp only[ċ,bO,fC,eV,fu]
  split
  ·rename_i d;have:=HF (h l (by simp)) a d.2;omega
  ·omega
def Us {b:ã} (h:ť b) {g:æ} (r:0<=g.2.2.2.2.2/\g.2.2.2.2.2<=1048576) {f t:Int} (z:0<=f/\f<=100000) (K:0<=t/\t<=100000):mj b g f t=some (la b g f t):=by
 have P:=h.nL;have H:=h.nU
 have d:∀i,0<=ċ g.1 f t (b.2.2.2.1.take i)/\ċ g.1 f t (b.2.2.2.1.take i)<=12*(20001*1048576):=by
  intro i;have e:=mC (id:=g.1) (t:=t) z.1 (x:=b.2.2.2.1.take i) fun l n=>za h (eN n);have h2:((b.2.2.2.1.take i).length:Int)*(20001*1048576)<=12*(20001*1048576):=dN (by rw[bY]; omega) (by omega);omega
 unfold mj P6;refine ė (fun x:Int×Int=>∃i:Nat,i<=b.2.2.2.1.length/\x=(ċ g.1 f t (b.2.2.2.1.take i),(i:Int))) (fun x=>b.2.2.2.1.length-x.2.toNat) ?_ ⟨0,by omega,rfl⟩;rintro x ⟨i,hi,rfl⟩;rcases Nat.lt_or_ge i b.2.2.2.1.length with a|G
 ·have n:b.2.2.2.1[i]?=some b.2.2.2.1[i]:=bG a;have F:=za h (bR n);refine .inr ⟨(ċ g.1 f t (b.2.2.2.1.take (i+1)),(i:Int)+1),⟨i+1,a,by simp⟩,by simp; omega,fun E=>?_⟩
  try dsimp only
  unfold oG;have D:=d i;have Q:=d (i+1)
  have j:ċ g.1 f t (b.2.2.2.1.take (i+1))=ċ g.1 f t (b.2.2.2.1.take i)+(if b.2.2.2.1[i].1=g.1/\0<ú b.2.2.2.1[i] f t then ú b.2.2.2.1[i] f t*b.2.2.2.1[i].2.2 else 0):=by
   rw[take_succ n,rl]; simp[ċ]
  rw[Ð a,Æ n,Õ (by omega) (by omega),UU,Zt,Õ (by omega) (by omega),Õ (by omega) (by omega)];rw[show min b.2.2.2.1[i].2.1.2 (t-1)-max b.2.2.2.1[i].2.1.1 f+1=ú b.2.2.2.1[i] f t from rfl,û]
  by_cases c:b.2.2.2.1[i].1=g.1
  ·rw[if_pos (by simpa[ieq] using c),û]
   by_cases hd:0<ú b.2.2.2.1[i] f t
   ·have J:=HF F z.1 hd;rw[if_pos ⟨c,hd⟩] at j;rw[if_pos (by simpa[igt] using hd),Õ (by omega) (by omega),Õ (by omega) (by omega),È a (by omega),j]
   ·rw[if_neg (fun s=>hd s.2)] at j;rw[if_neg (by simpa[igt] using hd),È a (by omega),j,Int.add_zero]
  ·rw[if_neg (fun s=>c s.1)] at j;rw[if_neg (by simpa[ieq] using c),È a (by omega),j,Int.add_zero]
 ·refine .inl fun E=>?_
  have:i=b.2.2.2.1.length:=by omega
  subst this
  try dsimp only
  unfold oG;rw[Ý,List.take_length]
  have m:∀x:NO (Int×Int),x.length<=40->((x.filter fun u=>u.1==g.1&&inP u.2 f (t-1)).map fun u=>u.2).length<=40:=by
   intro x v;rw[cr];exact bP (cZ _ _) v
  refine ĥ b.2.2.1 (fun i=>((b.2.2.1.take i).filter fun u=>u.1==g.1&&inP u.2 f (t-1)).map fun u=>u.2) _ rfl (fun i u hi y o=>?_) (fun o=>?_)
  ·try dsimp only
   unfold oF;have v:=m (b.2.2.1.take i) (by rw[List.length_take]; omega);rw[Ð hi,Æ y,Õ (by omega) (by omega),Ń,À,É (by simp only[List.length_singleton]; omega),Am.iff_true,È hi (by omega),È hi (by omega),take_succ y,List.filter_append,List.map_append]
   cases e:(u.1==g.1) with
   |false =>
    have:ieq u.1 g.1=false:=e;simp only[this,ð,dw,e,Bool.false_and,bW,if_false,dD,dH,b6]
   |true =>
    have:ieq u.1 g.1=true:=e;rw[this]
    cases h2:inP u.2 f (t-1) with
    |false=>simp only[gQ,ð,dw,e,h2,cX,bW,if_false,dD,dH,b6]
    |true=>simp only[gQ,dw,e,h2,cX,if_true,dD,dH,cE]
  ·try dsimp only
   unfold oF;rw[Ý,List.take_length];rw[show((b.2.2.1.filter fun u=>u.1==g.1&&inP u.2 f (t-1)).map fun u=>u.2)=Ű b g.1 f t from rfl];have I:(Ű b g.1 f t).length<=40:=m _ H
   have C:(Kz (Ű b g.1 f t)).length<=40:=by
    have:=vS (Ű b g.1 f t);omega
   have O:0<=((Kz (Ű b g.1 f t)).length:Int)*g.2.2.2.2.2/\((Kz (Ű b g.1 f t)).length:Int)*g.2.2.2.2.2<=40*1048576 :=
    ⟨eI (by omega) r.1,dR (by omega) r.2 r.1 (by omega)⟩
   have D:=d b.2.2.2.1.length;rw[List.take_length] at D;dsimp only;rw[É (by omega),Am.iff_true,É (by rw[Ku]; omega),Am.iff_true,Tu,á,Õ (by omega) (by omega),Õ (by omega) (by omega)];rfl
abbrev Lk:Type:=Int×Int×Int
inductive Wl (L:List Lk) (S:Int->Prop):List Int->Int->Int->Prop
 |nil {v:Int}:S v->Wl L S [] v 0
 |step {vs:List Int} {u v m d:Int}:Wl L S vs u d->(u,v,m)∈L->Wl L S (u::vs) v (d+m)
def Pot (L:NO Lk) (p:Int->Int):Prop:=∀u v m,(u,v,m)∈L->p v<=p u+m
def InR (L:NO Lk) (N:Nat):Prop:=∀l∈L,(0<=l.1/\l.1<N)/\(0<=l.2.1/\l.2.1<N)
section
variable {L:NO Lk} {S:Int->Prop} {N:Nat} {p:Int->Int}
def Wl.cut (g:Pot L p) {vs:NO Int} {v d:Int} (h:Wl L S vs v d):∀x∈vs,∃a e,Wl L S a x e/\(x::a) <:+ vs/\e+(p v-p x)<=d:=by
 induction h with
 |nil h=>intro x c; cases c
 | @step vs u v m d f i ih =>
  intro x c;have n:=g u v m i;rcases bL.1 c with rfl|c
  ·exact⟨vs,d,f,List.suffix_refl _,by omega⟩
  ·obtain⟨a,e,l,j,o⟩:=ih x c;exact⟨a,e,l,j.trans (List.suffix_cons _ _),by omega⟩
def Wl.simple (o:Pot L p) {vs:NO Int} {v d:Int} (h:Wl L S vs v d):∃c j,Wl L S c v j/\j<=d/\(v::c).Nodup:=by
 induction h with
 |nil h=>exact⟨[],0,.nil h,df _,by simp⟩
 | @step vs u v m d D r ih =>
  obtain⟨a,z,s,E,i⟩:=ih;have e:=Wl.step s r
  by_cases g:v∈u::a
  ·obtain⟨f,y,n,l,C⟩:=e.cut o v g;exact⟨f,y,n,by omega,i.sublist l.sublist⟩
  ·exact⟨u::a,z+m,e,by omega,dL.2 ⟨g,i⟩⟩
def Wl.range (g:InR L N) (f:∀v,S v->0<=v/\v<N) {vs:NO Int} {v d:Int} (h:Wl L S vs v d):(0<=v/\v<N)/\∀u∈vs,0<=u/\u<N:=by
 induction h with
 |nil h=>exact⟨f _ h,fun u c=>by cases c⟩
 | @step vs u v m d i e ih =>
  refine⟨(g _ e).2,fun w a=>?_⟩;rcases bL.1 a with rfl|h
  ·exact ih.1
  ·exact ih.2 w h
def Pz:∀(N:Nat) (l:NO Int),l.Nodup->(∀x∈l,0<=x/\x<N)->l.length<=N
 |0,l,_,h=>by
  cases l with
  |nil=>simp
  |cons a l=>have:=h a (by simp); omega
 |N+1,l,c,h=>by
  have e:(l.erase (N:Int)).length<=N:=Pz N _ (c.erase _) fun x d=>by
   have h2:=(c.mem_erase_iff).1 d;have:=h x h2.2;have:=h2.1;omega
  have:=List.length_erase (a:=(N:Int)) (l:=l)
  split at this<;>omega
def Wl.short (f:InR L N) (e:∀v,S v->0<=v/\v<N) {vs:NO Int} {v d:Int} (h:Wl L S vs v d) (c:(v::vs).Nodup):vs.length+1<=N:=by
 have:=h.range f e
 exact Pz N (v::vs) c fun x a=>by
  rcases bL.1 a with rfl|a
  ·exact this.1
  ·exact this.2 x a
def AO (f:Lk->Bool):NO Lk->Int
 |[]=>0
 |l::t=>(if f l then min l.2.2 0 else 0)+AO f t
def T9 (f:Lk->Bool):∀L:NO Lk,AO (fun _=>true) L<=AO f L
 |[]=>df _
 |l::t=>by
  have:=T9 f t;simp only[AO,if_true]
  split<;>omega
def od (f:Lk->Bool):∀L:NO Lk,AO f L<=0
 |[]=>df _
 |l::t=>by
  have:=od f t;simp only[AO]
  split<;>omega
def PO {f:Lk->Bool} {l:Lk} (c:f l=true):∀{L:NO Lk},l∈L->AO f L<=l.2.2
 |a::t,h=>by
  simp only[AO];rcases bL.1 h with rfl|h
  ·have:=od f t;rw[if_pos c]; omega
  ·have:=PO c h
   split<;>omega
def T8 {f g:Lk->Bool} (h:∀l,f l=true->g l=false):∀L:NO Lk,AO (fun l=>f l||g l) L=AO f L+AO g L
 |[]=>rfl
 |l::t=>by
  have e:=T8 h t;simp only[AO,e]
  by_cases c:f l=true
  ·simp[c,h l c]; omega
  ·have a:f l=false:=by simpa using c
   by_cases d:g l=true
   ·simp[a,d]; omega
   ·simp[a,d]
def Wl.low {vs:NO Int} {v d:Int} (h:Wl L S vs v d):vs.Nodup->AO (fun l=>vs.contains l.1) L<=d:=by
 induction h with
 |nil h=>intro _; exact od _ _
 | @step vs u v m d n e ih =>
  intro a;rw[dL] at a;have o:=ih a.2;have h2:AO (fun l=>l.1==u) L<=m:=PO (f:=fun l=>l.1==u) (l:=(u,v,m)) (by simp) e
  have j:=T8 (f:=fun l:Lk=>l.1==u) (g:=fun l=>vs.contains l.1) (fun l c=>by
   simp only[beq_iff_eq] at c;rw[c]
   simpa using a.1) L
  have i:(fun l:Lk=>(u::vs).contains l.1)=fun l=>(l.1==u)||vs.contains l.1:=by funext l; rw[List.contains_cons]
  rw[i,j];omega
def BS (L:NO Lk):Int:=AO (fun _=>true) L
def Wl.low' (c:Pot L p) {vs:NO Int} {v d:Int} (h:Wl L S vs v d):BS L<=d:=by
 obtain⟨a,g,f,h2,e⟩:=h.simple c;have:=f.low (List.nodup_cons.1 e).2;have:=T9 (fun l=>a.contains l.1) L;unfold BS;omega
def Wl.high {M:Int} (c:∀l∈L,l.2.2<=M) {vs:NO Int} {v d:Int} (h:Wl L S vs v d):d<=vs.length*M:=by
 induction h with
 |nil h=>simp
 | @step vs u v m d e a ih =>
  have:=c _ a;simp only[bO,fC,eV,fu];simp only at this;omega
end
abbrev g9:Int:=1152921504606846976
structure Tc (L:NO Lk) (S:Int->Prop) (N:Nat) (x:Int->Int):Prop where
 att:∀v:Int,0<=v->v<N->x v≠g9->∃vs,Wl L S vs v (x v)
 low:∀v vs d,Wl L S vs v d->x v<=d
 bd:∀v:Int,0<=v->v<N->x v<=g9
def Tc.uniq {L:NO Lk} {S:Int->Prop} {N:Nat} {x y:Int->Int} (c:Tc L S N x) (d:Tc L S N y) {v:Int} (h0:0<=v) (e:v<N):x v=y v:=by
 have a:∀{x y:Int->Int},Tc L S N x->Tc L S N y->x v<=y v:=by
  intro x y c d
  by_cases h:y v=g9
  ·rw[h]; exact c.bd v h0 e
  ·obtain⟨vs,f⟩:=d.att v h0 e h;exact c.low v vs _ f
 exact Int.le_antisymm (a c d) (a d c)
def gv (x:NO Int) (v:Int):Int:=x[v.toNat]?.getD 0
def Mz {x:NO Int} {v:Int} (h:v.toNat<x.length):x[v.toNat]?=some (gv x v):=by
 unfold gv; rw[List.getElem?_eq_getElem h]; rfl
def ro {x:NO Int} {u v:Int} (d:0<=u) (c:0<=v) (h:u.toNat<x.length) (y:Int):gv (x.set u.toNat y) v=if v=u then y else gv x v:=by
 unfold gv;rw[List.getElem?_set]
 by_cases a:v=u
 ·subst a; simp[h]
 ·have:¬u.toNat=v.toNat:=by omega
  simp[a,this]
def Qo {x y:NO Int} (a:x.length=y.length) (h:∀v:Int,0<=v->v<x.length->gv x v=gv y v):x=y:=by
 refine List.ext_getElem a fun i c h2=>?_;have:=h i (by omega) (by omega);unfold gv at this;simpa[c,h2] using this
def hO (x:NO Int) (l:Lk):NO Int:=if gv x l.1<g9/\gv x l.1+l.2.2<gv x l.2.1 then x.set l.2.1.toNat (gv x l.1+l.2.2) else x
def AI (L:NO Lk) (x:NO Int):NO Int:=L.foldl hO x
def gz (L:NO Lk):Nat->NO Int->NO Int
 |0,x=>x
 |n+1,x=>gz L n (AI L x)
def jw (x:NO Int) (l:Lk):(hO x l).length=x.length:=by unfold hO; split<;>simp
def pZ (L:NO Lk):∀x:NO Int,(AI L x).length=x.length:=by
 induction L with
 |nil=>intro x; rfl
 |cons l t a=>intro x; show(AI t (hO x l)).length=_; rw[a,jw]
def ī (L:NO Lk):∀(n:Nat) (x:NO Int),(gz L n x).length=x.length
 |0,x=>rfl
 |n+1,x=>by rw[gz,ī L n,pZ]
def uX (L:NO Lk):∀(n:Nat) (x:NO Int),gz L (n+1) x=AI L (gz L n x)
 |0,x=>rfl
 |n+1,x=>by rw[gz,uX L n]; rfl
section
variable {L0:NO Lk} {S:Int->Prop} {N:Nat}
def KH {x:NO Int} {l:Lk} (c:(0<=l.1/\l.1<N)/\(0<=l.2.1/\l.2.1<N)) (d:x.length=N) (v:Int) (a:0<=v):gv (hO x l) v<=gv x v:=by
 unfold hO
 split
 ·rename_i h;rw[ro c.2.1 a (by omega)]
  split
  ·rename_i h2; subst h2; omega
  ·exact df _
 ·exact df _
def vY:∀{L:NO Lk},InR L N->∀{x:NO Int},x.length=N->∀v,0<=v->gv (AI L x) v<=gv x v
 |[],_,x,_,v,_=>df _
 |l::t,d,x,a,v,c=>by
  have f:=KH (d l (by simp)) a v c;have h2:=vY (L:=t) (fun l e=>d l (by simp[e])) (x:=hO x l) (by rw[jw,a]) v c;show gv (AI t (hO x l)) v<=_;omega
def yH:∀{L:NO Lk},InR L N->∀{x:NO Int},x.length=N->∀u v m,(u,v,m)∈L->gv x u<g9->gv (AI L x) v<=gv x u+m
 |l::t,e,x,f,u,v,m,d,i=>by
  have g:InR t N:=fun l a=>e l (by simp[a])
  have c:(hO x l).length=N:=by rw[jw,f]
  show gv (AI t (hO x l)) v<=_;rcases bL.1 d with rfl|d
  ·have a:=e (u,v,m) (by simp);have h2:=vY g c v a.2.1
   have j:gv (hO x (u,v,m)) v<=gv x u+m:=by
    unfold hO
    split
    ·rw[ro a.2.1 a.2.1 (by simp only at a; simp only; omega),if_pos rfl]; exact df _
    ·rename_i h; simp only[not_and,Int.not_lt] at h; exact h i
   omega
  ·have a:=e (u,v,m) (by simp[d]);have n:=KH (e l (by simp)) f u a.1.1;have:=yH g c u v m d (by omega);omega
def Att (L0:NO Lk) (S:Int->Prop) (N:Nat) (x:NO Int):Prop:=∀v:Int,0<=v->v<N->gv x v<g9->∃vs,Wl L0 S vs v (gv x v)
def Rl {x:NO Int} {l:Lk} (a:(0<=l.1/\l.1<N)/\(0<=l.2.1/\l.2.1<N)) (e:l∈L0) (i:x.length=N) (h:Att L0 S N x):Att L0 S N (hO x l):=by
 unfold hO
 split
 ·rename_i f;intro v h0 g c;rw[ro a.2.1 h0 (by omega)] at c ⊢
  split
  ·rename_i h2;obtain⟨vs,d⟩:=h l.1 a.1.1 a.1.2 f.1;exact⟨_,h2▸Wl.step d e⟩
  ·rename_i h2;rw[if_neg h2] at c;exact h v h0 g c
 ·exact h
def KR:∀{L:NO Lk},InR L N->(∀l∈L,l∈L0)->∀{x:NO Int},x.length=N->Att L0 S N x->Att L0 S N (AI L x)
 |[],_,_,_,_,h=>h
 |l::t,d,hsub,x,c,h=>KR (L:=t) (fun l a=>d l (by simp[a])) (fun l a=>hsub l (by simp[a])) (x:=hO x l) (by rw[jw,c]) (Rl (d l (by simp)) (hsub l (by simp)) c h)
def GI (c:InR L0 N):∀(n:Nat) {x:NO Int},x.length=N->Att L0 S N x->Att L0 S N (gz L0 n x)
 |0,_,_,h=>h
 |n+1,x,a,h=>GI c n (by rw[pZ,a]) (KR c (fun _ h=>h) a h)
def vX (d:InR L0 N):∀(n:Nat) {x:NO Int},x.length=N->∀v,0<=v->gv (gz L0 n x) v<=gv x v
 |0,_,_,_,_=>df _
 |n+1,x,a,v,c=>Int.le_trans (vX d n (by rw[pZ,a]) v c) (vY d a v c)
def start (S:Int->Bool) (N:Nat):NO Int:=(List.range N).map fun(i:Nat)=>if S i then 0 else g9
def Ų (S:Int->Bool) {N:Nat} {v:Int} (h0:0<=v) (a:v<N):gv (start S N) v=if S v then 0 else g9:=by
 unfold gv start
 have:v.toNat<N:=by omega
 rw[dk,eX this];simp only[cp,dQ];rw[Int.toNat_of_nonneg h0]
def ò (S:Int->Bool) (N:Nat):(start S N).length=N:=by simp[start]
end
def yG {L:NO Lk} {S:Int->Bool} {N:Nat} {M:Int} (j:InR L N) (i:∀v,S v=true->0<=v/\v<N) (r:∀l∈L,l.2.2<=M):∀(n:Nat),n*M<g9->0<=M->∀vs v d,Wl L (fun v=>S v=true) vs v d->vs.length<=n->gv (gz L n (start S N)) v<=d
 |0,_,_,vs,v,d,e,g=>by
  cases e with
  |nil h =>
   have:=i v h;rw[gz,Ų S this.1 this.2,if_pos h]; exact df _
  |step=>simp at g
 |n+1,s,c,vs,v,d,e,g=>by
  have f:n*M<g9:=by rw[fC,eV,fu] at s; omega
  have a:(gz L n (start S N)).length=N:=by rw[ī,ò]
  rw[uX]
  cases e with
  |nil h =>
   have C:=vY j a v (i v h).1;have h2:=yG j i r n f c [] v 0 (.nil h) (by simp);omega
  | @step vs u _ m d e o =>
   have h2:=yG j i r n f c vs u d e (by simpa using g);have z:=e.high r;have y:(vs.length:Int)*M<=n*M:=dN (by simp at g; omega) c;have:=yH j a u v m o (by omega);omega
def Cu {L:NO Lk} {S:Int->Bool} {N:Nat} {M:Int} {p:Int->Int} (z:Pot L p) (c:InR L N) (m:∀v,S v=true->0<=v/\v<N) (F:∀l∈L,l.2.2<=M) (o:0<=M) (E:N*M<g9) (n:Nat) (s:N<=n+1):Tc L (fun v=>S v=true) N (gv (gz L n (start S N))):=by
 have g:Att L (fun v=>S v=true) N (start S N):=fun v h0 a u=>by
  rw[Ų S h0 a] at u ⊢
  split
  ·rename_i h; exact⟨[],.nil h⟩
  ·rename_i h; rw[if_neg h] at u; omega
 have f:∀v:Int,0<=v->v<N->gv (gz L n (start S N)) v<=g9:=fun v h0 a=>by
  have:=vX c n (ò S N) v h0;rw[Ų S h0 a] at this
  have K:(0:Int)<=g9:=by decide
  split at this<;>omega
 have e:∀(n:Nat),N<=n+1->∀v vs d,Wl L (fun v=>S v=true) vs v d->gv (gz L n (start S N)) v<=d:=by
  intro n s v vs d y;obtain⟨i,I,a,h2,H⟩:=y.simple z;have P:=a.short c m H
  have r:0<N:=by omega
  obtain⟨k,rfl⟩:∃k,N=k+1:=⟨N-1,by omega⟩
  have D:(k:Int)*M<g9:=by rw[fC,eV,fu] at E; omega
  have O:=yG c m F k D o i v I a (by omega);obtain⟨j,rfl⟩:∃j,n=k+j:=⟨n-k,by omega⟩
  have G:∀(j:Nat),gv (gz L (k+j) (start S (k+1))) v<=gv (gz L k (start S (k+1))) v:=by
   intro j
   induction j with
   |zero=>exact df _
   |succ j J =>
    rw[<-Nat.add_assoc,uX];have:=vY c (x:=gz L (k+j) (start S (k+1))) (by rw[ī,ò]) v (a.range c m).1.1;omega
  have:=G j;omega
 exact⟨fun v h0 a C=>GI c n (ò S N) g v h0 a (by have:=f v h0 a; omega),e n s,f⟩
def Tc.pot {L:NO Lk} {S:Int->Prop} {N:Nat} {x:Int->Int} (h:Tc L S N x) (c:InR L N) {u v m:Int} (a:(u,v,m)∈L) (e:x u≠g9):x v<=x u+m:=by
 obtain⟨vs,d⟩:=h.att u (c _ a).1.1 (c _ a).1.2 e;exact h.low v _ _ (.step d a)
def õ (b:ã) (g:æ):NO Lk :=
 [(0,atP (Ø b) [g.1] g.2.1,g.2.2.1+g.2.2.2.1.2),(atP (Ø b) [g.1] g.2.1,0,-(g.2.2.1+g.2.2.2.1.1))] ++
 (List.range ((ê b g).length-1)).flatMap fun(k:Nat)=>[(atP (Ø b) [g.1] g.2.1+k,atP (Ø b) [g.1] g.2.1+k+1,0),(atP (Ø b) [g.1] g.2.1+k+1,atP (Ø b) [g.1] g.2.1+k,la b g ((ê b g)[k]?.getD 0) ((ê b g)[k+1]?.getD 0))]
def cx (b:ã) (c:Cmp):Int:=atP (Ø b) (â c.2.2.1 c.2.2.2.1) c.2.1
def cy (b:ã) (c:Cmp):Int:=atP (Ø b) (â c.2.2.2.1 c.2.2.1) c.2.1
def ĭ (b:ã) (c:Cmp):NO Lk:=[(cy b c,cx b c,(vT b c).2),(cx b c,cy b c,-(vT b c).1)]
def fK (b:ã):NO Lk:=b.2.1.flatMap (õ b)++b.2.2.2.2.1.flatMap (ĭ b)
def ó (b:ã) (i:Nat) (g:æ):NO (Int×Int):=[(1,(i:Int)),(1,(i:Int))]++(List.range ((ê b g).length-1)).flatMap fun _=>[(2,(i:Int)),(2,(i:Int))]
def BK (b:ã):NO (Int×Int):=(b.2.1.mapIdx (ó b)).flatten++(b.2.2.2.2.1.mapIdx fun i _=>[(3,(i:Int)),(3,(i:Int))]).flatten
section
variable {b:ã}
def Ci (h:ť b) {id a:Int} (c:Q8 (Ġ b) id a=0):(0<=a/\a<=20000)/\∃g,ķ b id=some g/\g.2.1<=a:=by
 unfold Q8 at c
 split at c
 ·omega
 ·rename_i hd;simp only[cF,Bool.not_eq_false,yd,inP,bH,decide_eq_true_eq] at hd;exact⟨hd,yP h c⟩
def rG {g:æ} {d:Int}:d∈ê b g↔d=g.2.1\/(∃c∈b.2.2.2.2.1,(c.2.2.1.contains g.1)≠(c.2.2.2.1.contains g.1)/\c.2.1=d)\/(∃n∈b.2.2.2.2.2,n.1=g.1/\n.2=d):=by
 unfold ê;rw[rU,Oz];simp only[List.mem_append,List.mem_singleton,List.mem_map,List.mem_filter];constructor
 ·rintro((h|⟨c,⟨e,h2⟩,a⟩)|⟨n,⟨e,h2⟩,a⟩)
  ·exact .inl h
  ·exact .inr (.inl ⟨c,e,by simpa using h2,a⟩)
  ·exact .inr (.inr ⟨n,e,by simpa using h2,a⟩)
 ·rintro(h|⟨c,e,h2,a⟩|⟨n,e,h2,a⟩)
  ·exact .inl (.inl h)
  ·exact .inl (.inr ⟨c,⟨e,by simpa using h2⟩,a⟩)
  ·exact .inr ⟨n,⟨e,by simpa using h2⟩,a⟩
def ť.gaugeR (h:ť b) {g:æ} (a:g∈b.2.1):yE g.2.2.2.2.1=true/\(-1000<=g.2.2.2.2.1.1/\g.2.2.2.2.1.1<=1000)/\g.2.2.2.2.1.2<=100/\(1<=g.1/\g.1<=1099511627776)/\(0<=g.2.1/\g.2.1<=20000)/\(1<=g.2.2.1/\g.2.2.1<=1125899906842624)/\(-1073741824<=g.2.2.2.1.1/\g.2.2.2.1.1<=g.2.2.2.1.2/\g.2.2.2.1.2<=1073741824)/\(0<=g.2.2.2.2.2/\g.2.2.2.2.2<=1048576):=(nH g).1 (h.gauge g a)
def ť.day (h:ť b) {g:æ} (j:g∈b.2.1) {d:Int} (hd:d∈ê b g):g.2.1<=d/\0<=d/\d<=20000:=by
 have o:=h.gaugeR j;have a:=Er h.ids j;rcases rG.1 hd with rfl|⟨c,l,i,rfl⟩|⟨n,f,i,rfl⟩
 ·have:=o.2.2.2.2.1; omega
 ·have f:=(Ŕ c).1 (h.nums l)
  have m:g.1∈c.2.2.1++c.2.2.2.1:=by
   rw[bJ]
   by_cases h2:g.1∈c.2.2.1
   ·exact .inl h2
   ·refine .inr ?_
    have s:c.2.2.1.contains g.1=false:=by simpa using h2
    rw[s] at i
    have:c.2.2.2.1.contains g.1=true:=by cases u:c.2.2.2.1.contains g.1<;>simp_all
    simpa using this
  obtain⟨⟨g',e,r⟩,_⟩:=h.pile l m;rw[a] at e; cases e;have:=f.2.1;omega
 ·obtain⟨h2,g',e,r⟩:=Ci h (h.looks n f);rw[i,a] at e; cases e;omega
def sS (g:æ):g.2.1∈ê b g:=rG.2 (.inl rfl)
def B8 (h:ť b) {g:æ} (c:g∈b.2.1):(ê b g).length<=59:=by
 have f:∀l:NO æ,g∈l->(ê b g).length<=(l.flatMap fun g=>(ê b g).map fun d=>((g.1,d):Int×Int)).length:=by
  intro l
  induction l with
  |nil=>intro c; cases c
  |cons a t e =>
   intro c;rw[cj,bI,cr];rcases bL.1 c with rfl|c
   ·omega
   ·have:=e c; omega
 have:=f b.2.1 c;have:=h.nodes;unfold Ø at this;omega
def V5 {p:NO Int} {d:Int}:0<=atP (Ø b) p d/\atP (Ø b) p d<=(Ø b).length:=by
 unfold atP
 cases p with
 |nil=>simp
 |cons x t =>
  try dsimp only
  cases h:f0 (Ø b) x d with
  |none=>simp
  |some j=>have:=(mZ h).1; dsimp only; omega
def uU (h:ť b) {c:Cmp} (d:c∈b.2.2.2.2.1):(-1125904000000000<=(vT b c).1/\(vT b c).1<=1125904000000000)/\(-1125904000000000<=(vT b c).2/\(vT b c).2<=1125904000000000):=by
 obtain⟨r1,r2⟩:=h.rates d;have a:=(Ŕ c).1 (h.nums d);have ha:=Ă a.2.2.2.2.2.1;have hb:=Ă a.2.2.2.2.2.2;have m:=h.film;obtain⟨i,g⟩:=IJ (Ck r1 r2) a.2.2.2.2.1;have n:=oV (b:=b) (c:=c) (by omega) (by omega) (by omega) (by omega) (by omega) (by omega);have f:lg (ĝ b c).1 2000000000 10000:=i;have e:lg (ĝ b c).2 2000000000 10000:=g;have r:=sW f;have o:=oT e;have l:=a.2.2.1;have j:=a.2.2.2.1;unfold vT
 try dsimp only
 omega
def kF (h:ť b) {g:æ} (d:g∈b.2.1) {f t:Int} (e:0<=f):0<=la b g f t/\la b g f t<=12*(20001*1048576)+40*1048576:=by
 have a:=(h.gaugeR d).2.2.2.2.2.2.2;have n:=mC (id:=g.1) (t:=t) e (x:=b.2.2.2.1) fun l c=>za h c;have h2:(b.2.2.2.1.length:Int)*(20001*1048576)<=12*(20001*1048576):=dN (by have:=h.nL; omega) (by omega)
 have m:(Ű b g.1 f t).length<=40:=by
  unfold Ű;rw[List.length_map];exact Nat.le_trans (List.length_filter_le _ _) h.nU
 have j:=vS (Ű b g.1 f t)
 have i:0<=((Kz (Ű b g.1 f t)).length:Int)*g.2.2.2.2.2/\((Kz (Ű b g.1 f t)).length:Int)*g.2.2.2.2.2<=40*1048576 :=
  ⟨eI (by omega) a.1,dR (by omega) a.2 a.1 (by omega)⟩
 unfold la;omega
end
def ź {α β:Type} (f:Nat->α->β) {l:NO α} {i:Nat} {a:α} (h:l[i]?=some a):(l.take (i+1)).mapIdx f=(l.take i).mapIdx f++[f i a]:=by
 have hi:i<l.length:=(bN.1 h).1
 have:(l.take i).length=i:=by rw[bY]; omega
 rw[take_succ h,List.mapIdx_append];simp[this]
def mQ {α:Type} (f:Nat->NO α) (j:Nat):(List.range (j+1)).flatMap f=(List.range j).flatMap f++f j:=by
 rw[List.range_succ,dE]; simp
def ř {α:Type} (f:Nat->NO α) (n:Nat) (h:∀k,(f k).length=2):((List.range n).flatMap f).length=2*n:=by
 induction n with
 |zero=>rfl
 |succ n a=>rw[mQ,bI,a,h]; omega
set_option maxHeartbeats 2000000 in
def I0 {b:ã} (h:ť b):sL b=some (b,Ø b,(((Ø b).length:Int)+1,fK b),BK b):=by
 unfold sL P5;have hN:=h.nodes;have hG:=h.nG;have hC:=h.nC;rw[IT h.size,À,á,Õ (by omega) (by omega)]
 -- lengths of what comes
 have gl:∀g∈b.2.1,(õ b g).length<=120/\∀i,(ó b i g).length<=120:=by
  intro g a;have:=B8 h a;constructor
  ·unfold õ;rw[List.length_append,ř _ _ (fun _=>rfl)];simp only[List.length_cons,List.length_nil]; omega
  ·intro i;unfold ó;rw[List.length_append,ř _ _ (fun _=>rfl)];simp only[List.length_cons,List.length_nil]; omega
 have s:∀i,((b.2.1.take i).flatMap (õ b)).length<=1440/\(((b.2.1.take i).mapIdx (ó b)).flatten).length<=1440:=by
  intro i
  induction i with
  |zero=>simp
  |succ i n =>
   have o:∀i,i<=b.2.1.length->((b.2.1.take i).flatMap (õ b)).length<=i*120/\(((b.2.1.take i).mapIdx (ó b)).flatten).length<=i*120:=by
    intro i
    induction i with
    |zero=>intro _; simp
    |succ i n =>
     intro hi;have n:=n (by omega);have a:b.2.1[i]?=some b.2.1[i]:=bG hi;have h2:=gl _ (bR a);have h3:=h2.2 i;rw[ź _ a,take_succ a,dE,eW,bI,bI];simp only[cj,eO,b6,fk,fw];omega
   rcases ce b.2.1.length (i+1) with G|G
   ·rw[cA (by omega)];have:=o b.2.1.length (bE _);rw[eR] at this;omega
   ·have:=o (i+1) G;omega
 refine ĥ b.2.1 (fun i=>((b.2.1.take i).flatMap (õ b),((b.2.1.take i).mapIdx (ó b)).flatten)) _ rfl (fun i g hi a P=>?_) (fun P=>?_)
 ·try dsimp only
  unfold oE;have e:=List.mem_of_getElem? a;have z:=h.gaugeR e;have hd:=B8 h e;have r:=s i;have R:=V5 (b:=b) (p:=[g.1]) (d:=g.2.1);rw[Ð hi,Æ a];rw[show jV ((b.1.1,b.1.2),b.2.1,b.2.2.1,b.2.2.2.1,b.2.2.2.2.1,b.2.2.2.2.2) g=jV b g from rfl,Vh h.size,À];rw[V4 _ _ _ (by dsimp only; omega),À]
  try dsimp only
  have r1:=z.2.2.2.2.2.1;have r2:=z.2.2.2.2.2.2.1;rw[Õ (by omega) (by omega),Õ (by omega) (by omega),Õ (by omega) (by omega),É (by simp only[bO,bV]; omega),Am.iff_true,É (by simp only[bO,bV]; omega),Am.iff_true]
  refine ė (fun x:Int×NO Lk×NO (Int×Int)=>∃j:Nat,j+1<=(ê b g).length/\x.1=(j:Int)+1 /\
   x.2.1=(b.2.1.take i).flatMap (õ b)++([(0,atP (Ø b) [g.1] g.2.1,g.2.2.1+g.2.2.2.1.2),(atP (Ø b) [g.1] g.2.1,0,-(g.2.2.1+g.2.2.2.1.1))] ++
    (List.range j).flatMap fun(k:Nat)=>[(atP (Ø b) [g.1] g.2.1+k,atP (Ø b) [g.1] g.2.1+k+1,0),(atP (Ø b) [g.1] g.2.1+k+1,atP (Ø b) [g.1] g.2.1+k,la b g ((ê b g)[k]?.getD 0) ((ê b g)[k+1]?.getD 0))]) /\
   x.2.2=((b.2.1.take i).mapIdx (ó b)).flatten++([(1,(i:Int)),(1,(i:Int))]++(List.range j).flatMap fun _=>[(2,(i:Int)),(2,(i:Int))])) (fun x=>(ê b g).length-x.1.toNat) ?_
   ⟨0,eA (sS g),rfl,by simp,by simp⟩
  rintro⟨x1,O,K⟩ ⟨j,hj,J,y,v⟩;dsimp only at J y v ⊢;subst J
  have F:O.length<=1562:=by
   rw[y,bI,bI,ř _ _ (fun _=>rfl)];simp only[bO,bV]; omega
  have E:K.length<=1562:=by
   rw[v,bI,bI,ř _ _ (fun _=>rfl)];simp only[bO,bV]; omega
  rcases ce (j+1) (ê b g).length with f|Q
  ·refine .inr ⟨((j:Int)+1+1,_,_),⟨j+1,f,by push_cast; rfl,rfl,rfl⟩,by dsimp only; omega,fun l=>?_⟩
   try dsimp only
   unfold oD
   have I:(ê b g)[j]?=some ((ê b g)[j]?.getD 0):=by rw[bG (by omega)]; rfl
   have H:(ê b g)[j+1]?=some ((ê b g)[j+1]?.getD 0):=by rw[bG f]; rfl
   have U:=h.day e (bR I);have d2:=h.day e (bR H);have Z:=kF h e (t:=(ê b g)[j+1]?.getD 0) U.2.1
   have T:((j:Int)+1)=((j+1:Nat):Int):=by push_cast; rfl
   rw[T,Ð f,Õ (by omega) (by omega),Õ (by omega) (by omega),Õ (by omega) (by omega),Õ (by omega) (by omega)];rw[show(((j+1:Nat):Int)-1)=((j:Nat):Int) by omega,Æ I,Æ H];rw[show mj ((b.1.1,b.1.2),b.2.1,b.2.2.1,b.2.2.2.1,b.2.2.2.2.1,b.2.2.2.2.2) (g.1,g.2.1,g.2.2.1,(g.2.2.2.1.1,g.2.2.2.1.2),(g.2.2.2.2.1.1,g.2.2.2.2.1.2),g.2.2.2.2.2) ((ê b g)[j]?.getD 0) ((ê b g)[j+1]?.getD 0)=mj b g ((ê b g)[j]?.getD 0) ((ê b g)[j+1]?.getD 0) from rfl];rw[Us h z.2.2.2.2.2.2.2 ⟨by omega,by omega⟩ ⟨by omega,by omega⟩,À,Õ (by omega) (by omega),Õ (by omega) (by omega),É (by simp only[bO,bV]; omega),Am.iff_true,É (by simp only[bO,bV]; omega),Am.iff_true,È f (by omega)];rw[mQ,mQ,y,v]
   have X:atP (Ø b) [g.1] g.2.1+((j+1:Nat):Int)-1=atP (Ø b) [g.1] g.2.1+(j:Int):=by push_cast; omega
   have W:atP (Ø b) [g.1] g.2.1+((j+1:Nat):Int)=atP (Ø b) [g.1] g.2.1+(j:Int)+1:=by push_cast; omega
   have a3:0-(0-la b g ((ê b g)[j]?.getD 0) ((ê b g)[j+1]?.getD 0))=la b g ((ê b g)[j]?.getD 0) ((ê b g)[j+1]?.getD 0):=by omega
   rw[X,W,a3];simp only[bS]
  ·refine .inl fun l=>?_
   have C:j+1=(ê b g).length:=by omega
   unfold oD;rw[show((j:Int)+1)=(((ê b g).length:Nat):Int) by rw[<-C]; push_cast; rfl,Ý];dsimp only;rw[È hi (by omega)];rw[ź _ a,take_succ a,List.flatMap_append,List.flatten_append,y,v,show j=(ê b g).length-1 by omega];simp only[List.flatMap_cons,List.flatMap_nil,List.append_nil,List.flatten_cons,List.flatten_nil];rfl
 ·try dsimp only
  unfold oE;rw[Ý,List.take_length];have r:=s b.2.1.length;rw[List.take_length] at r
  have V:∀i,i<=b.2.2.2.2.1.length->((b.2.2.2.2.1.take i).flatMap (ĭ b)).length=2*i/\(((b.2.2.2.2.1.take i).mapIdx fun i _=>[((3:Int),(i:Int)),((3:Int),(i:Int))]).flatten).length=2*i:=by
   intro i
   induction i with
   |zero=>intro _; simp
   |succ i n =>
    intro hi;have n:=n (by omega);have a:b.2.2.2.2.1[i]?=some b.2.2.2.2.1[i]:=bG hi;rw[ź _ a,take_succ a,dE,eW,bI,bI];simp only[cj,eO,b6,fk,fw,ĭ,bO,bV];omega
  refine ĥ b.2.2.2.2.1 (fun i=>(b.2.1.flatMap (õ b)++(b.2.2.2.2.1.take i).flatMap (ĭ b),(b.2.1.mapIdx (ó b)).flatten++((b.2.2.2.2.1.take i).mapIdx fun i _=>[((3:Int),(i:Int)),((3:Int),(i:Int))]).flatten)) _ (by simp) (fun i c hi u l=>?_) (fun l=>?_)
  ·try dsimp only
   unfold oC;have m:=List.mem_of_getElem? u;have D:=(Ŕ c).1 (h.nums m);have ha:=Ă D.2.2.2.2.2.1;have hb:=Ă D.2.2.2.2.2.2;have Y:=uU h m;have c1:=V i (by omega);rw[Ð hi,Æ u,mD (by omega) (by omega),À,V4 _ _ _ (by dsimp only; omega),À,mD (by omega) (by omega),À,V4 _ _ _ (by dsimp only; omega),À];rw[show oZ ((b.1.1,b.1.2),b.2.1,b.2.2.1,b.2.2.2.1,b.2.2.2.2.1,b.2.2.2.2.2) c=oZ b c from rfl,h.says m,À];rw[Õ (by omega) (by omega),É (by simp only[List.length_append,List.length_cons,List.length_nil]; omega),Am.iff_true,É (by simp only[List.length_append,List.length_cons,List.length_nil]; omega),Am.iff_true,È hi (by omega),ź _ u,take_succ u,List.flatMap_append,List.flatten_append];simp only[List.flatMap_cons,List.flatMap_nil,List.append_nil,List.flatten_cons,List.flatten_nil,List.append_assoc,Int.zero_sub];rfl
  ·try dsimp only
   unfold oC;rw[Ý,List.take_length];rfl
section
variable {ρ:Type}
def wv (w:NO Bool) (v:Int):Bool:=w[v.toNat]?.getD false
def O8 {w:NO Bool} {u v:Int} (d:0<=u) (c:0<=v) (h:u.toNat<w.length) (y:Bool):wv (w.set u.toNat y) v=if v=u then y else wv w v:=by
 unfold wv;rw[List.getElem?_set]
 by_cases a:v=u
 ·subst a; simp[h]
 ·have:¬u.toNat=v.toNat:=by omega
  simp[a,this]
def ks {x:NO Int} {v:Int} (h:v.toNat<x.length) (f:Int->Nm ρ):κ x v.toNat f=f (gv x v):=wm (Mz h) f
def IV {w:NO Bool} {v:Int} (h:v.toNat<w.length) (f:Bool->Nm ρ):κ w v.toNat f=f (wv w v):=by
 refine wm ?_ f;unfold wv; rw[List.getElem?_eq_getElem h]; rfl
def ji {v:Int} {n:Nat} (h0:0<=v) (a:v<n) (x:Nm ρ):ä ((ile 0 v)&&(ilt v (n:Int))) x=x:=by
 have:((ile 0 v)&&(ilt v (n:Int)))=true:=by simp[ile,ilt,h0,a]
 rw[this,Am.iff_true]
end
def kH (n least:Int):NO Lk->NO Int->NO Bool->NO Int->Bool×NO Int×NO Bool×NO Int
 |[],x,w,q=>(true,x,w,q)
 |l::t,x,w,q =>
  if l.1≠n then kH n least t x w q else
  if gv x l.2.1<=gv x n+l.2.2 then kH n least t x w q else
  if gv x n+l.2.2<least then(false,x.set l.2.1.toNat (gv x n+l.2.2),w,q) else
  if wv w l.2.1 then kH n least t (x.set l.2.1.toNat (gv x n+l.2.2)) w q else kH n least t (x.set l.2.1.toNat (gv x n+l.2.2)) (w.set l.2.1.toNat true) (q++[l.2.1])
structure ţ (L:NO Lk) (N:Nat) (M:Int):Prop where
 inr:InR L N
 noloop:∀l∈L,l.1≠l.2.1
 most:∀l∈L,-M<=l.2.2/\l.2.2<=M
 len:L.length<=400
 nodes:N<=1000
 m0:0<=M
 m1:M<=4503599627370496
set_option maxHeartbeats 1000000 in
def XA {ρ:Type} {L:NO Lk} {N:Nat} {M:Int} (F:ţ L N M) {n least:Int} (Q:0<=n/\n<N) {x:NO Int} {w:NO Bool} {q:NO Int} (hx:x.length=N) (hw:w.length=N) (hq:q.length<=1000000)
 (hb : -2305843009213693952<=gv x n/\gv x n<=2305843009213693952) (U:(Val (.pair .bool (.pair (.slice tI) (.pair (.slice .bool) (.slice tI)))))->Nm ρ) (T:(Val (.pair (.slice tI) (.pair (.slice .bool) (.slice tI))))->Nm ρ) :
 Ó (fun(d:(Val (.pair tI (.pair (.slice tI) (.pair (.slice .bool) (.slice tI)))))) D=>Α [] least n L (ß L) d.1 d.2.1 d.2.2.1 d.2.2.2 (fun O K J I=>D (O,K,J,I)) U T) ((0:Int),x,w,q) =
  match kH n least L x w q with
  |(true,r)=>T r
  |(false,r)=>U (false,r):=by
 have X:=F.len
 refine Jm L (fun i (s:NO Int×NO Bool×NO Int) t=>match kH n least t s.1 s.2.1 s.2.2 with|(true,r)=>T r|(false,r)=>U (false,r))
  (fun i s=>s.1.length=N/\s.2.1.length=N/\gv s.1 n=gv x n/\s.2.2.length<=1000000+i) (fun s hs Z=>?_) (fun i l t s hd hi Y hI Z E=>?_) (s:=(x,w,q)) ⟨hx,hw,rfl,by simpa using hq⟩
 ·try dsimp only
  unfold Α;rw[Ý];rfl
 ·obtain⟨y,u,p⟩:=s;obtain⟨G,h2,H,h4⟩:=hI;dsimp only at G h2 H h4 E ⊢;have a:l∈L:=List.mem_of_getElem? Y;have o:=F.inr l a;have hm:=F.most l a;have hm1:=F.m1;have P:=F.noloop l a;unfold Α;rw[Ð hi,Æ Y];unfold kH
  by_cases c:l.1=n
  ·have R:ine l.1 n=false:=by simp[ine,c]
   rw[Ñ R];have e1:∀(f:Bool->Nm ρ) (g:Nm ρ),Nx (k:=tI) (v:=.bool) (i:Int) [] f g=g:=fun f g=>rfl;rw[e1,if_neg (by simp[c])]
   have W:n.toNat<y.length:=by omega
   have C:l.2.1.toNat<y.length:=by omega
   have V:l.2.1.toNat<u.length:=by omega
   rw[ji Q.1 (by omega),ks W,Õ (by omega) (by omega),ji o.2.1 (by omega),ks C,û]
   by_cases j:gv y l.2.1<=gv y n+l.2.2
   ·rw[if_pos (by simpa[ige] using j),if_pos j,È hi (by omega)];exact E (y,u,p) ⟨G,h2,H,by dsimp only; omega⟩
   ·rw[if_neg (by simpa[ige] using j),if_neg j]
    have m:gv (y.set l.2.1.toNat (gv y n+l.2.2)) n=gv x n:=by
     rw[ro o.2.1 Q.1 C,if_neg (fun h=>P (c.trans h)),H]
    have z:gv (y.set l.2.1.toNat (gv y n+l.2.2)) l.2.1=gv y n+l.2.2:=by
     rw[ro o.2.1 o.2.1 C,if_pos rfl]
    rw[ji Q.1 (by omega),ks W,Õ (by omega) (by omega),ji o.2.1 (by omega),ks C];rw[show(Ć (List.set y l.2.1.toNat (gv y n+l.2.2)))=((y.length:Nat):Int) by simp[Ć]];rw[ji o.2.1 (by omega),ks (by simpa using C),z,û]
    by_cases e:gv y n+l.2.2<least
    ·rw[if_pos (by simpa[ilt] using e),if_pos e]
    ·rw[if_neg (by simpa[ilt] using e),if_neg e,ji o.2.1 (by omega),IV V,û]
     cases hwv:wv u l.2.1 with
     |true =>
      rw[if_neg (by simp),if_pos rfl,È hi (by omega)];exact E (y.set l.2.1.toNat (gv y n+l.2.2),u,p) ⟨by simpa using G,h2,m,by dsimp only; omega⟩
     |false =>
      rw[if_pos (by simp),if_neg (by simp),É (by simp only[cm]; omega),Am.iff_true,ji o.2.1 (by omega),IV V,È hi (by omega)];exact E (y.set l.2.1.toNat (gv y n+l.2.2),u.set l.2.1.toNat true,p++[l.2.1]) ⟨by simpa using G,by simpa using h2,m,by simp only[bI,cm]; omega⟩
  ·have R:ine l.1 n=true:=by simp[ine,c]
   rw[Û R,if_pos c,È hi (by omega)];exact E (y,u,p) ⟨G,h2,H,by dsimp only; omega⟩
structure Yu (N:Nat) (n least:Int) (L:NO Lk) (x:NO Int) (q:NO Int) (x':NO Int) (w':NO Bool) (q':NO Int):Prop where
 lx:x'.length=N
 lw:w'.length=N
 same:gv x' n=gv x n
 le:∀v:Int,0<=v->v<N->gv x' v<=gv x v
 link:∀v m,(n,v,m)∈L->gv x' v<=gv x n+m
 chg:∀v:Int,0<=v->v<N->gv x' v=gv x v\/(v∈q'/\gv x' v<gv x v/\∃m,(n,v,m)∈L/\gv x' v=gv x n+m/\least<=gv x' v)
 new:∃l,q'=q++l/\∀v∈l,(0<=v/\v<N)/\gv x' v<gv x v
 nodup:q'.Nodup
 waits:∀v:Int,0<=v->v<N->(wv w' v=true↔v∈q')
def gi {N:Nat} {n least:Int} (P:0<=n/\n<N):∀{L:NO Lk},InR L N->(∀l∈L,l.1≠l.2.1)->∀{x:NO Int} {w:NO Bool} {q:NO Int},x.length=N->w.length=N->q.Nodup->(∀v:Int,0<=v->v<N->(wv w v=true↔v∈q)) ->
 ∀{C:NO Int} {w':NO Bool} {G:NO Int},kH n least L x w q=(true,C,w',G)->Yu N n least L x q C w' G
 |[],_,_,x,w,q,K,H,I,c,C,w',G,h=>by
  cases h;exact⟨K,H,rfl,fun _ _ _=>df _,fun _ _ h=>(by cases h),fun _ _ _=>.inl rfl,⟨[],by simp,fun _ h=>by cases h⟩,I,c⟩
 |l::t,hL,O,x,w,q,K,H,I,c,C,w',G,h=>by
  have s:InR t N:=fun l hl=>hL l (by simp[hl]);have r:∀l∈t,l.1≠l.2.1:=fun l hl=>O l (by simp[hl]);have d:=hL l (by simp);have hl0:=O l (by simp);unfold kH at h
  split at h
  ·rename_i F;have a:=gi P s r K H I c h
   exact⟨a.lx,a.lw,a.same,a.le,fun v m i=>by
    rcases bL.1 i with rfl|i
    ·exact(F rfl).elim
    ·exact a.link v m i,fun v h0 u=>(a.chg v h0 u).imp id fun⟨z,j,m,T,J⟩=>⟨z,j,m,by simp[T],J⟩,a.new,a.nodup,a.waits⟩
  ·rename_i F
   have R:l.1=n:=by simpa using F
   split at h
   ·rename_i hle;have a:=gi P s r K H I c h
    exact⟨a.lx,a.lw,a.same,a.le,fun v m i=>by
     rcases bL.1 i with rfl|i
     ·have:=a.le v d.2.1 d.2.2; simp only at hle; omega
     ·exact a.link v m i,fun v h0 u=>(a.chg v h0 u).imp id fun⟨z,j,m,T,J⟩=>⟨z,j,m,by simp[T],J⟩,a.new,a.nodup,a.waits⟩
   ·rename_i hgt
    split at h
    ·cases h
    ·rename_i hls
     have tt:l.2.1.toNat<x.length:=by omega
     have tw:l.2.1.toNat<w.length:=by omega
     have hy:(x.set l.2.1.toNat (gv x n+l.2.2)).length=N:=by simpa using K
     have D:gv (x.set l.2.1.toNat (gv x n+l.2.2)) n=gv x n:=by
      rw[ro d.2.1 P.1 tt,if_neg (fun h=>hl0 (R.trans h))]
     have f:∀v,0<=v->gv (x.set l.2.1.toNat (gv x n+l.2.2)) v=if v=l.2.1 then gv x n+l.2.2 else gv x v:=fun v h0=>ro d.2.1 h0 tt _
     have hlm:(n,l.2.1,l.2.2)∈l::t:=by rw[<-R]; simp
     -- what both ways have in common
     have fin:∀{w1:NO Bool} {U:NO Int},Yu N n least t (x.set l.2.1.toNat (gv x n+l.2.2)) U C w' G->l.2.1∈U->(∃V,U=q++V/\∀v∈V,v=l.2.1)->Yu N n least (l::t) x q C w' G:=by
      intro w1 U a Q X;obtain⟨new,y,Y⟩:=a.new;obtain⟨V,hl',hlv⟩:=X
      have W:gv C l.2.1<=gv x n+l.2.2:=by
       have:=a.le l.2.1 d.2.1 d.2.2;rw[f _ d.2.1,if_pos rfl] at this;exact this
      refine⟨a.lx,a.lw,a.same.trans D,fun v h0 u=>?_,fun v m i=>?_,fun v h0 u=>?_,⟨V++new,by rw[y,hl',bS],fun v o=>?_⟩,a.nodup,a.waits⟩
      ·have:=a.le v h0 u;rw[f v h0] at this
       split at this
       ·rename_i e; subst e; omega
       ·exact this
      ·rcases bL.1 i with rfl|i
       ·exact W
       ·have:=a.link v m i
        rwa [D] at this
      ·rcases a.chg v h0 u with g|⟨z,j,m,T,J,g5⟩
       ·rw[f v h0] at g
        split at g
        ·rename_i e;subst e;exact .inr ⟨by rw[y]; exact cn _ Q,by omega,l.2.2,hlm,g,by omega⟩
        ·exact .inl g
       ·rw[f v h0] at j;rw[D] at J;refine .inr ⟨z,?_,m,by simp[T],J,g5⟩
        split at j
        ·rename_i e; subst e; omega
        ·exact j
      ·rcases bJ.1 o with o|o
       ·rw[hlv v o]; exact⟨d.2,by omega⟩
       ·obtain⟨z,j⟩:=Y v o;rw[f v z.1] at j;refine⟨z,?_⟩
        split at j
        ·rename_i e; subst e; omega
        ·exact j
     split at h
     ·rename_i E;exact fin (w1:=w) (gi P s r hy H I c h) ((c _ d.2.1 d.2.2).1 E) ⟨[],by simp,fun _ h=>by cases h⟩
     ·rename_i E;have Z:l.2.1∉q:=fun hc=>E ((c _ d.2.1 d.2.2).2 hc);refine fin (w1:=w.set l.2.1.toNat true) (gi P s r hy (by simpa using H) ?_ ?_ h) (by simp) ⟨[l.2.1],rfl,fun v o=>by simpa using o⟩
      ·rw[fo];exact⟨I,by simp,fun a ha b hb=>by simp at hb; subst hb; exact fun e=>Z (e▸ha)⟩
      ·intro v h0 u;rw[O8 d.2.1 h0 tw]
       by_cases o:v=l.2.1
       ·simp[o]
       ·simp only[o,if_false,bJ,bK,or_false];exact c v h0 u
def iV {n least:Int}:∀{L:NO Lk},(∀l∈L,l.1≠l.2.1)->(∀l∈L,0<=l.2.1)->0<=n->∀{x:NO Int} {w:NO Bool} {q:NO Int} {r},kH n least L x w q=(false,r)->∃v m,(n,v,m)∈L/\gv x n+m<least
 |[],_,_,_,x,w,q,r,h=>by cases h
 |l::t,e,h0,g,x,w,q,r,h=>by
  have a:∀l∈t,l.1≠l.2.1:=fun l s=>e l (by simp[s]);have c:∀l∈t,0<=l.2.1:=fun l s=>h0 l (by simp[s]);have f:(∃v m,(n,v,m)∈t/\gv x n+m<least)->∃v m,(n,v,m)∈l::t/\gv x n+m<least:=fun⟨v,m,y,u⟩=>⟨v,m,by simp[y],u⟩;unfold kH at h
  split at h
  ·exact f (iV a c g h)
  ·rename_i i
   have o:l.1=n:=by simpa using i
   split at h
   ·exact f (iV a c g h)
   ·split at h
    ·rename_i j;exact⟨l.2.1,l.2.2,by rw[<-o]; simp,j⟩
    ·have d:gv (x.set l.2.1.toNat (gv x n+l.2.2)) n=gv x n:=by
      unfold gv;rw[List.getElem?_set];have z:=e l (by simp);have h2:=h0 l (by simp)
      have:¬l.2.1.toNat=n.toNat:=by omega
      simp[this]
     split at h
     ·have:=iV a c g h;rw[d] at this;exact f this
     ·have:=iV a c g h;rw[d] at this;exact f this
def PN {ρ:Type} {L:NO Lk} {N:Nat} {M:Int} (j:ţ L N M) {n least:Int} (c:0<=n/\n<N) {x:NO Int} {w:NO Bool} {t rest:NO Int} (m:x.length=N) (o:w.length=N) (E:t.length=N) (u:rest.length<=1000000)
 (hb : -2305843009213693952<=gv x n/\gv x n<=2305843009213693952) (s:0<=gv t n/\gv t n<=1000000) (i:NO Int->NO Bool->NO Int->NO Int->Nm ρ) (h:(Val (.pair .bool (.pair (.slice tI) (.pair (.slice .bool) (.pair (.slice tI) (.slice tI))))))->Nm ρ) :
 Ĉ [] least (N:Int) L x w t (n::rest) i h =
  if (N:Int)+1<gv t n+1 then h (false,x,w.set n.toNat false,t.set n.toNat (gv t n+1),rest) else
  match kH n least L x (w.set n.toNat false) rest with
  |(true,d,w',g)=>i d w' (t.set n.toNat (gv t n+1)) g
  |(false,d,w',g)=>h (false,d,w',t.set n.toNat (gv t n+1),g):=by
 have F:=j.nodes
 have D:n.toNat<x.length:=by omega
 have l:n.toNat<w.length:=by omega
 have e:n.toNat<t.length:=by omega
 unfold Ĉ
 have C:ieq (ß (n::rest)) 0=false:=by
  rw[á];simp only[ieq,bO,beq_eq_false_iff_ne,ne_eq];omega
 have z:ilt (0:Int) (Ć (n::rest))=true:=by simp[ilt,Ć]
 have y:ile (1:Int) (Ć (n::rest))=true:=by simp[ile,Ć]; omega
 have v:decide (1+(List.length (n::rest)-1)=List.length (n::rest))=true:=by simp; omega
 rw[Ñ C,jq z];rw[show κ (n::rest) 0=fun(f:Int->Nm ρ)=>f n from rfl]
 try dsimp only
 rw[jq y,jq v,ji c.1 (by omega),IV l,ji c.1 (by omega),ks e,Õ (by omega) (by omega),ji c.1 (by omega),ks e];rw[show(Ć (List.set t n.toNat (gv t n+1)))=((t.length:Nat):Int) by simp[Ć]];rw[ji c.1 (by omega),ks (by simpa using e),ro c.1 c.1 e,if_pos rfl,Õ (by omega) (by omega),û];rw[show List.drop 1 (n::rest)=rest from rfl]
 by_cases a:(N:Int)+1<gv t n+1
 ·rw[if_pos (by simpa[igt] using a),if_pos a]
 ·rw[if_neg (by simpa[igt] using a),if_neg a];rw[XA j c m (w:=w.set n.toNat false) (by simpa using o) u hb];generalize kH n least L x (w.set n.toNat false) rest=r;obtain⟨b,d,w',g⟩:=r
  cases b<;>rfl
def TS {ρ:Type} {L:NO Lk} {N:Int} {least:Int} {x:NO Int} {w:NO Bool} {t:NO Int} (c:NO Int->NO Bool->NO Int->NO Int->Nm ρ) (a:(Val (.pair .bool (.pair (.slice tI) (.pair (.slice .bool) (.pair (.slice tI) (.slice tI))))))->Nm ρ) :
 Ĉ [] least N L x w t [] c a=a (true,x,w,t,[]):=by
 unfold Ĉ
 have d:ieq (ß ([]:NO Int)) 0=true:=by rw[á]; rfl
 rw[Û d]
def Jq (N:Nat) (t:NO Int):Nat:=(t.map fun a=>((N:Int)+2-a).toNat).sum
def Qj (N:Nat):∀(t:NO Int) (i:Nat) (a b:Int),t[i]?=some a->a<b->a<(N:Int)+2->Jq N (t.set i b)<Jq N t
 |a0::t,0,a,b,h,c,h2=>by
  simp at h; subst h;simp only[Jq,List.set_cons_zero,cE,List.sum_cons];omega
 |a0::t,i+1,a,b,h,c,h2=>by
  have:=Qj N t i a b (by simpa using h) c h2;simp only[Jq] at this;simp only[Jq,List.set_cons_succ,cE,List.sum_cons];omega
def Mp {N:Nat} {t:NO Int} {n:Int} (a:n.toNat<t.length) (h:gv t n<=(N:Int)+1):Jq N (t.set n.toNat (gv t n+1))<Jq N t :=
 Qj N t n.toNat (gv t n) _ (Mz a) (by omega) (by omega)
structure Tb (L:NO Lk) (S:Int->Prop) (N:Nat) (M:Int) (k:Nat) (A B:NO Int) (x:NO Int) (w:NO Bool) (t q:NO Int):Prop where
 q_eq:q=A++B
 lx:x.length=N
 lw:w.length=N
 lt:t.length=N
 nodup:q.Nodup
 rng:∀v∈q,0<=v/\v<N
 waits:∀v:Int,0<=v->v<N->(wv w v=true↔v∈q)
 t0:∀v:Int,0<=v->v<N->0<=gv t v/\gv t v<=(k:Int)+1
 tA:∀v∈A,gv t v<=k
 low:∀vs v d,Wl L S vs v d->vs.length<=k->gv x v<=d
 nxt:∀vs u d,Wl L S vs u d->vs.length<=k->u∉A->∀v m,(u,v,m)∈L->gv x v<=d+m
 rel:∀u:Int,0<=u->u<N->u∉q->gv x u≠g9->∀v m,(u,v,m)∈L->gv x v<=gv x u+m
 att:∀v:Int,0<=v->v<N->gv x v≠g9->∃vs,Wl L S vs v (gv x v)
 bd:∀v:Int,0<=v->v<N->gv x v=g9\/gv x v<=((k:Int)+1)*M
 bA:∀v∈A,gv x v<=(k:Int)*M
 fin:∀v∈q,gv x v<g9
 kN:k+1<=N
 last:k+1=N->B=[]
section
variable {L:NO Lk} {S:Int->Prop} {N:Nat} {M:Int} {p:Int->Int} {k:Nat} {A B x:NO Int} {w:NO Bool} {t q:NO Int}
def BT {a b:Nat} {M:Int} (h:a<=b) (c:0<=M):(a:Int)*M<=(b:Int)*M:=dN (by omega) c
def Wl.lt_free (a:ţ L N M) (f:N*M<g9) {vs:NO Int} {v d:Int} (c:Wl L S vs v d) (h:vs.length<=N):d<g9:=by
 have g:=c.high fun l e=>(a.most l e).2;have h2:=BT h a.m0;omega
def Tb.next (r:ţ L N M) (o:N*M<g9) (C:∀v,S v->0<=v/\v<N) (h:Tb L S N M k [] B x w t q) (E:B≠[]):Tb L S N M (k+1) B [] x w t q:=by
 have D:=r.m0
 have i:q=B:=by simpa using h.q_eq
 have F:k+1≠N:=fun e=>E (h.last e);have z:=h.kN
 have a:∀vs v d,Wl L S vs v d->vs.length<=k+1->gv x v<=d:=by
  intro vs v d f n
  cases f with
  |nil y=>exact h.low [] v 0 (.nil y) (by simp)
  | @step vs u _ m d f g=>exact h.nxt vs u d f (by simpa using n) (by simp) v m g
 refine⟨by simp[i],h.lx,h.lw,h.lt,h.nodup,h.rng,h.waits,fun v h0 c=>⟨(h.t0 v h0 c).1,by have:=(h.t0 v h0 c).2; push_cast; omega⟩,fun v l=>?_,a,fun vs u d f n s v m g=>?_,h.rel,h.att,fun v h0 c=>?_,fun v l=>?_,h.fin,by omega,fun _=>rfl⟩
 ·have:=h.rng v (by rw[i]; exact l);have:=(h.t0 v this.1 this.2).2;push_cast; omega
 ·have c:=a vs u d f n;have h2:=f.lt_free r o (by omega);have j:=(f.range r.inr C).1;have:=h.rel u j.1 j.2 (by rw[i]; exact s) (by omega) v m g;omega
 ·rcases h.bd v h0 c with h2|h2
  ·exact .inl h2
  ·refine .inr ?_;have:=BT (show k+1<=k+1+1 by omega) D;push_cast at this ⊢;omega
 ·have c:=h.rng v (by rw[i]; exact l);have h2:=h.fin v (by rw[i]; exact l);rcases h.bd v c.1 c.2 with j|j
  ·omega
  ·push_cast; exact j
def Tb.step {n:Int} {K:NO Int} {least:Int} {H:NO Int} {w':NO Bool} {Z:NO Int} (F:ţ L N M) (hNM:N*M<g9) (hp:Pot L p) (hS:∀v,S v->0<=v/\v<N) (h:Tb L S N M k (n::K) B x w t q)
 (ha:Yu N n least L x (K++B) H w' Z):∃B',Tb L S N M k K B' H w' (t.set n.toNat (gv t n+1)) Z:=by
 have hM:=F.m0
 have y:q=n::(K++B):=by simpa using h.q_eq
 have J:=h.kN;have r:=h.rng n (by rw[y]; simp);have hnf:=h.fin n (by rw[y]; simp)
 have U:n∉K++B:=by have:=h.nodup; rw[y,dL] at this; exact this.1
 have T:n.toNat<t.length:=by have:=h.lt; omega
 have z:∀v,0<=v->gv (t.set n.toNat (gv t n+1)) v=if v=n then gv t n+1 else gv t v:=fun v h0=>ro r.1 h0 T _
 have hkM:((k:Int)+1)*M<g9:=by
  have:=BT J hM;push_cast at this;omega
 have G:∀v:Int,0<=v->v<N->gv x v<=g9:=fun v h0 a=>by rcases h.bd v h0 a with h2|h2<;>omega
 obtain⟨l,P,D⟩:=ha.new
 have C:∀v:Int,0<=v->v<N->gv H v≠g9->∃vs,Wl L S vs v (gv H v):=by
  intro v h0 a I;rcases ha.chg v h0 a with g|⟨_,_,m,Y,X,_⟩
  ·rw[g] at I ⊢; exact h.att v h0 a I
  ·obtain⟨vs,s⟩:=h.att n r.1 r.2 (by omega);rw[X]; exact⟨_,s.step Y⟩
 refine⟨B++l,by rw[P,bS],ha.lx,ha.lw,by rw[dC]; exact h.lt,ha.nodup,fun v c=>?_,ha.waits,fun v h0 a=>?_,fun v c=>?_,fun vs v d s i=>?_,fun vs u d s i O v m f=>?_,
  fun u h0 a O hf v m f=>?_,C,fun v h0 a=>?_,fun v c=>?_,fun v c=>?_,J,fun hk=>?_⟩
 ·rw[P] at c;rcases bJ.1 c with c|c
  ·exact h.rng v (by rw[y]; simp only[bL]; exact .inr c)
  ·exact(D v c).1
 ·rw[z v h0];have h2:=h.t0 v h0 a
  split
  ·have h3:=h.tA n (by simp);have h4:=h.t0 n r.1 r.2;omega
  ·exact h2
 ·have a:=h.rng v (by rw[y]; simp[c]);rw[z v a.1,if_neg (fun e=>U (by rw[<-e]; simp[c]))];exact h.tA v (by simp[c])
 ·have a:=h.low vs v d s i;have h2:=(s.range F.inr hS).1;have:=ha.le v h2.1 h2.2;omega
 ·have j:=(F.inr _ f).2
  by_cases o:u=n
  ·subst o;have a:=ha.link v m f;have h2:=h.low vs u d s i;omega
  ·have a:=h.nxt vs u d s i (by simp[o,O]) v m f;have:=ha.le v j.1 j.2;omega
 ·have j:=(F.inr _ f).2
  have V:gv H u=gv x u:=by
   rcases ha.chg u h0 a with g|⟨g,_⟩
   ·exact g
   ·exact(O g).elim
  by_cases o:u=n
  ·subst o;have a:=ha.link v m f;omega
  ·have R:u∉q:=by
    rw[y];intro W;rcases bL.1 W with e|W
    ·exact o e
    ·exact O (by rw[P]; exact cn _ W)
   have h2:=h.rel u h0 a R (by rw[<-V]; exact hf) v m f;have:=ha.le v j.1 j.2;omega
 ·rcases ha.chg v h0 a with g|⟨_,_,m,Y,X,_⟩
  ·rw[g]; exact h.bd v h0 a
  ·have h2:=h.bA n (by simp);have h3:=(F.most _ Y).2;simp only at h3;refine .inr ?_;rw[X,eV,fu];omega
 ·have a:=h.rng v (by rw[y]; simp[c]);have h2:=h.bA v (by simp[c]);have:=ha.le v a.1 a.2;omega
 ·rw[P] at c;rcases bJ.1 c with c|c
  ·have a:=h.rng v (by rw[y]; simp only[bL]; exact .inr c);have h2:=h.fin v (by rw[y]; simp only[bL]; exact .inr c);have:=ha.le v a.1 a.2;omega
  ·obtain⟨E,g2⟩:=D v c;have:=G v E.1 E.2;omega
 ·rw[h.last hk]
  cases l with
  |nil=>rfl
  |cons v l =>
   exfalso;obtain⟨E,g2⟩:=D v (by simp);have:=G v E.1 E.2;obtain⟨vs,s⟩:=C v E.1 E.2 (by omega);obtain⟨Q,d',k1,k2,k3⟩:=s.simple hp;have k4:=k1.short F.inr hS k3;have:=h.low Q v d' k1 (by omega);omega
def Tb.done (e:ţ L N M) (l:N*M<g9) (C:Pot L p) (o:∀v,S v->0<=v/\v<N) (h:Tb L S N M k A B x w t []):Tc L S N (gv x):=by
 have j:=h.kN;have E:=e.m0
 have D:((k:Int)+1)*M<g9:=by
  have:=BT j E;push_cast at this;omega
 have g:∀vs v d,Wl L S vs v d->vs.length+1<=N->gv x v<=d:=by
  intro vs v d a
  induction a with
  |nil z=>intro _; exact h.low [] _ 0 (.nil z) (by simp)
  | @step vs u v m d a i ih =>
   intro c;simp only[bO] at c;have s:=ih (by omega);have h2:=a.lt_free e l (by omega);have r:=(a.range e.inr o).1;have:=h.rel u r.1 r.2 (by simp) (by omega) v m i;omega
 refine⟨h.att,fun v vs d a=>?_,fun v h0 s=>?_⟩
 ·obtain⟨f,F,n,G,y⟩:=a.simple C;have:=g f v F n (n.short e.inr o y);omega
 ·rcases h.bd v h0 s with h2|h2<;>omega
def Kt {ρ:Type} {r:Nm ρ} (d:ţ L N M) (i:N*M<g9) (z:Pot L p) (O:∀v,S v->0<=v/\v<N) (Q:(Val (.pair .bool (.pair (.slice tI) (.pair (.slice .bool) (.pair (.slice tI) (.slice tI))))))->Nm ρ)
 (hK:∀x w t q,x.length=N->Tc L S N (gv x)->Q (true,x,w,t,q)=r) (h:Tb L S N M k A B x w t q) :
 Ó (fun(e:(Val (.pair (.slice tI) (.pair (.slice .bool) (.pair (.slice tI) (.slice tI)))))) o=>Ĉ [] (BS L) (N:Int) L e.1 e.2.1 e.2.2.1 e.2.2.2 (fun F E D C=>o (F,E,D,C)) Q) (x,w,t,q)=r:=by
 refine ė (fun s:NO Int×NO Bool×NO Int×NO Int=>∃k A B,Tb L S N M k A B s.1 s.2.1 s.2.2.1 s.2.2.2) (fun s=>Jq N s.2.2.1) ?_ ⟨k,A,B,h⟩;rintro⟨x,w,t,q⟩ ⟨k,A,B,h⟩;dsimp only at h ⊢;have hN:=d.nodes
 cases q with
 |nil=>exact .inl fun kn=>by rw[TS]; exact hK x w t [] h.lx (h.done d i z O)
 |cons n rest =>
  -- the phase in which the first one is
  have K:∃k j B,Tb L S N M k (n::j) B x w t (n::rest):=by
   cases A with
   |nil =>
    have hB:B=n::rest:=by simpa using h.q_eq.symm
    subst hB;exact⟨k+1,rest,[],h.next d i O (by simp)⟩
   |cons a j =>
    have:=h.q_eq;simp only[cO,List.cons.injEq] at this;obtain⟨rfl,_⟩:=this;exact⟨k,j,B,h⟩
  clear h k A B;obtain⟨k,j,B,h⟩:=K
  have f:rest=j++B:=by have:=h.q_eq; simpa using this
  have c:=h.rng n (by simp);have hnf:=h.fin n (by simp);have hkN:=h.kN;have W:=h.tA n (by simp);have h2:=h.t0 n c.1 c.2;obtain⟨vs,R⟩:=h.att n c.1 c.2 (by omega);have U:=R.low' z
  have T : -(400*4503599627370496)<=BS L:=by
   have:∀y:NO Lk,(∀l∈y,-M<=l.2.2)->-((y.length:Int)*M)<=BS y:=by
    intro y
    induction y with
    |nil=>intro _; simp[BS,AO]
    |cons l t ih =>
     intro V;have i1:=ih fun l u=>V l (by simp[u]);have i2:=V l (by simp);have i3:=d.m0;unfold BS at i1 ⊢;simp only[AO,if_true,List.length_cons,Int.natCast_succ,Int.add_mul,Int.one_mul];omega
   have h3:=this L fun l u=>(d.most l u).1;have h4:(L.length:Int)*M<=400*4503599627370496:=dR (by have:=d.len; omega) d.m1 d.m0 (by omega);omega
  have I:rest.length<=1000000:=by
   have:=Pz N (n::rest) h.nodup h.rng;simp only[bO] at this;omega
  refine .inr ?_
  have G:(w.set n.toNat false).length=N:=by rw[dC]; exact h.lw
  cases J:kH n (BS L) L x (w.set n.toNat false) rest with
  |mk b Y =>
  obtain⟨X,w',Z⟩:=Y
  cases b with
  |false =>
   exfalso;obtain⟨v,m,g1,g2⟩:=iV d.noloop (fun l u=>(d.inr l u).2.1) c.1 J;have:=(R.step g1).low' z;omega
  |true =>
   have g:=h.nodup;rw[dL] at g
   have ha:=gi c d.inr d.noloop h.lx G g.2 (fun v h0 W=>by
    rw[O8 c.1 h0 (by have:=h.lw; omega)]
    by_cases H:v=n
    ·subst H; simp[g.1]
    ·rw[if_neg H,h.waits v h0 W]
     simp[H]) J
   rw[f] at ha;obtain⟨B',P⟩:=h.step d i z O ha;refine⟨(X,w',t.set n.toNat (gv t n+1),Z),⟨k,j,B',P⟩,Mp (by have:=h.lt; omega) (by omega),fun kn=>?_⟩;have hF:g9=1152921504606846976:=rfl
   rw[PN d c h.lx h.lw h.lt I (by constructor<;>omega) (by constructor<;>omega),if_neg (by omega),J]
end
def CK (f:Lk->Bool):∀(L a:NO Lk),AO f (L++a)=AO f L+AO f a
 |[],a=>by simp[AO]
 |l::t,a=>by
  simp only[cO,AO,CK f t a];omega
def Lm {L:NO Lk} {i:Nat} {l:Lk} (h:L[i]?=some l):BS (L.take (i+1))=BS (L.take i)+min l.2.2 0:=by
 rw[take_succ h,BS,BS,CK];simp[AO]
def imin0 (e:Int):Kc e 0=min e 0:=by
 unfold Kc
 split<;>omega
def IW {L:NO Lk} {M:Int} (h:∀l∈L,-M<=l.2.2) (f:0<=M) : -((L.length:Int)*M)<=BS L:=by
 induction L with
 |nil=>simp[BS,AO]
 |cons l t a =>
  have c:=a fun l d=>h l (by simp[d]);have e:=h l (by simp);unfold BS at c ⊢;simp only[AO,if_true,List.length_cons,Int.natCast_succ,Int.add_mul,Int.one_mul];omega
def Zm (L:NO Lk):BS L<=0:=od _ L
section
variable {ρ:Type} {L:NO Lk} {N:Nat} {M:Int}
def Qk (e:ţ L N M) (m:Int->Nm ρ):Ó (fun(a:c7) c=>ŕ L (ß L) a.1 a.2 (fun g f=>c (g,f)) m) ((0:Int),(0:Int))=m (BS L):=by
 refine ė (fun x:Int×Int=>∃i:Nat,i<=L.length/\x=(BS (L.take i),(i:Int))) (fun x=>L.length-x.2.toNat) ?_ ⟨0,by omega,rfl⟩;rintro x ⟨i,hi,rfl⟩;have n:=e.len;rcases ce i L.length with h|h
 ·have d:L[i]?=some L[i]:=bG h;refine .inr ⟨(BS (L.take (i+1)),(i:Int)+1),⟨i+1,h,by simp⟩,by simp; omega,fun o=>?_⟩
  try dsimp only
  unfold ŕ
  have hb:∀j,j<=L.length->-(400*4503599627370496)<=BS (L.take j):=by
   intro j s;have r:=IW (L:=L.take j) (fun l d=>(e.most l (eN d)).1) e.m0;have h2:((L.take j).length:Int)*M<=400*4503599627370496:=dR (by rw[bY]; omega) e.m1 e.m0 (by omega);omega
  have r:=hb i hi;have h2:=hb (i+1) h;have u:=Zm (L.take i);rw[Lm d] at h2;rw[Ð h,Æ d,imin0,Õ (by omega) (by omega),È h (by omega),Lm d]
 ·refine .inl fun o=>?_
  have:i=L.length:=by omega
  subst this
  try dsimp only
  unfold ŕ;rw[Ý,List.take_length]
def Tr {x:NO Int} (P:x.length=N) (Q:N<=1000) {r:Nm ρ} (I:(Val (.pair (.slice .bool) (.slice tI)))->Nm ρ)
 (K:∀(w:NO Bool) (q:NO Int),w.length=N->q.Nodup->(∀v∈q,0<=v/\v<N)->(∀v:Int,0<=v->v<N->(wv w v=true↔v∈q))->(∀v:Int,0<=v->v<N->(v∈q↔gv x v≠g9))->I (w,q)=r) :
 Ó (fun(g:(Val (.pair tI (.pair (.slice .bool) (.slice tI))))) m=>ġ (N:Int) x g.1 g.2.1 g.2.2 (fun F E D=>m (F,E,D)) I) ((0:Int),(List.replicate N false),([]:NO Int))=r:=by
 refine ė (fun s:Int×NO Bool×NO Int=>∃i:Nat,i<=N/\s.1=i/\s.2.1.length=N/\s.2.2.Nodup/\s.2.2.length<=i/\(∀v∈s.2.2,0<=v/\v<i)/\(∀v:Int,0<=v->v<N->(wv s.2.1 v=true↔v∈s.2.2))/\(∀v:Int,0<=v->v<i->(v∈s.2.2↔gv x v≠g9))) (fun s=>N-s.1.toNat) ?_
  ⟨0,by omega,rfl,by simp,by simp,by simp,by simp,fun v h0 d=>?_,fun v h0 d=>by omega⟩
 ·rintro⟨s,w,q⟩ ⟨i,hi,d,h2,C,O,l,z,y⟩;simp only at d h2 C O l z y;subst d;rcases ce i N with h|h
  ·refine .inr ?_
   have f:i<x.length:=by omega
   have j:i<w.length:=by omega
   have n:((i:Int))∉q:=fun J=>by have:=(l _ J).2; omega
   by_cases o:gv x i=g9
   ·refine⟨((i:Int)+1,w,q),⟨i+1,h,by simp,h2,C,by simp only; omega,fun v c=>⟨(l v c).1,by have:=(l v c).2; push_cast; omega⟩,z,fun v h0 d=>?_⟩,by simp; omega,fun H=>?_⟩
    ·by_cases c:v=i
     ·subst c; simp[o,n]
     ·exact y v h0 (by push_cast at d; omega)
    ·try dsimp only
     unfold ġ
     have e:ilt (i:Int) (N:Int)=true:=by simp[ilt,h]
     rw[Û e,ς f,ks (by simpa using f)]
     have G:ine (gv x i) 1152921504606846976=false:=by simp[ine,o]
     rw[Ñ G,È h (by omega)]
   ·refine⟨((i:Int)+1,w.set i true,q++[(i:Int)]),⟨i+1,h,by simp,by simpa using h2,?_,by simp; omega,fun v c=>?_,fun v h0 d=>?_,fun v h0 d=>?_⟩,by simp; omega,fun H=>?_⟩
    ·rw[fo];exact⟨C,by simp,fun a ha b hb=>by simp at hb; subst hb; exact fun e=>n (e▸ha)⟩
    ·rcases bJ.1 c with c|c
     ·exact⟨(l v c).1,by have:=(l v c).2; push_cast; omega⟩
     ·simp at c; subst c; push_cast; omega
    ·have:=O8 (w:=w) (u:=(i:Int)) (by omega) h0 (by simpa using j) true;rw[bU] at this;show wv (w.set i true) v=true↔v∈q++[(i:Int)];rw[this]
     by_cases c:v=i
     ·simp[c]
     ·simp only[c,if_false,bJ,bK,or_false];exact z v h0 d
    ·show v∈q++[(i:Int)]↔_
     by_cases c:v=i
     ·subst c; simp[o]
     ·simp only[bJ,bK,c,or_false];exact y v h0 (by push_cast at d; omega)
    ·try dsimp only
     unfold ġ
     have e:ilt (i:Int) (N:Int)=true:=by simp[ilt,h]
     rw[Û e,ς f,ks (by simpa using f)]
     have G:ine (gv x i) 1152921504606846976=true:=by simp[ine,o]
     rw[Û G,É (by simp only[cm]; omega),Am.iff_true,ς j,IV (by simpa using j),È h (by omega),bU]
  ·refine .inl fun H=>?_
   have:i=N:=by omega
   subst this
   try dsimp only
   unfold ġ
   have e:ilt (i:Int) (i:Int)=false:=by simp[ilt]
   rw[Ñ e];exact K w q h2 C l z y
 ·have:wv (List.replicate N false) v=false:=by
   unfold wv;rw[List.getElem?_replicate]
   split<;>rfl
  simp[this]
def GA (D:ţ L N M) (E:1<=N) {S:Int->Bool} (y:∀v,S v=true->0<=v/\v<N) {w:NO Bool} {q:NO Int} (g:w.length=N) (z:q.Nodup) (h:∀v∈q,0<=v/\v<N) (j:∀v:Int,0<=v->v<N->(wv w v=true↔v∈q)) (n:∀v:Int,0<=v->v<N->(v∈q↔gv (start S N) v≠g9)) :
 Tb L (fun v=>S v=true) N M 0 q [] (start S N) w (List.replicate N 0) q:=by
 have s:∀v:Int,0<=v->v<N->gv (List.replicate N (0:Int)) v=0:=by
  intro v h0 a;unfold gv;rw[List.getElem?_replicate]
  split<;>rfl
 have i:∀v:Int,0<=v->v<N->(v∈q↔S v=true):=by
  intro v h0 a;rw[n v h0 a,Ų S h0 a]
  cases S v<;>simp[g9]
 have C:=D.m0;refine⟨by simp,ò S N,g,by simp,z,h,j,fun v h0 a=>?_,fun v e=>?_,fun vs v d g r=>?_,fun vs u d g r l v m o=>?_,fun u h0 a l f v m o=>?_,fun v h0 a f=>?_,fun v h0 a=>?_,fun v e=>?_,fun v e=>?_,by omega,fun _=>rfl⟩
 ·rw[s v h0 a]; omega
 ·have:=h v e;rw[s v this.1 this.2]; omega
 ·cases g with
  |nil c =>
   have:=y v c;rw[Ų S this.1 this.2,if_pos c]; omega
  |step=>simp at r
 ·cases g with
  |nil c =>
   have:=y u c;exact(l ((i u this.1 this.2).2 c)).elim
  |step=>simp at r
 ·rw[Ų S h0 a] at f;have:=mt (i u h0 a).2 l;rw[if_neg this] at f;exact(f rfl).elim
 ·rw[Ų S h0 a] at f ⊢
  split at f
  ·rename_i c;rw[if_pos c]; exact⟨[],.nil c⟩
  ·exact(f rfl).elim
 ·rw[Ų S h0 a]
  split
  ·exact .inr (by simp[C])
  ·exact .inl rfl
 ·have a:=h v e;rw[Ų S a.1 a.2,if_pos ((i v a.1 a.2).1 e)]; simp
 ·have a:=h v e;rw[Ų S a.1 a.2,if_pos ((i v a.1 a.2).1 e)]; simp[g9]
structure Bad (L:NO Lk) (N:Nat) (x:NO Int) (w:NO Bool) (t q:NO Int):Prop where
 lx:x.length=N
 lw:w.length=N
 lt:t.length=N
 nodup:q.Nodup
 rng:∀v∈q,0<=v/\v<N
 waits:∀v:Int,0<=v->v<N->(wv w v=true↔v∈q)
 t0:∀v:Int,0<=v->v<N->0<=gv t v/\gv t v<=(N:Int)+1
 bd:∀v:Int,0<=v->v<N->-2305843009213693952<=gv x v/\gv x v<=0
 rel:∀u:Int,0<=u->u<N->u∉q->∀v m,(u,v,m)∈L->gv x v<=gv x u+m
def WR {r:Nm ρ} {x:NO Int} {w:NO Bool} {t q:NO Int} (c:ţ L N M) (hp:¬∃p,Pot L p) (P:(Val (.pair .bool (.pair (.slice tI) (.pair (.slice .bool) (.pair (.slice tI) (.slice tI))))))->Nm ρ)
 (Z:∀x w t q,P (false,x,w,t,q)=r) (h:Bad L N x w t q) :
 Ó (fun(j:(Val (.pair (.slice tI) (.pair (.slice .bool) (.pair (.slice tI) (.slice tI)))))) D=>Ĉ [] (BS L) (N:Int) L j.1 j.2.1 j.2.2.1 j.2.2.2 (fun O K J I=>D (O,K,J,I)) P) (x,w,t,q)=r:=by
 refine ė (fun s:NO Int×NO Bool×NO Int×NO Int=>Bad L N s.1 s.2.1 s.2.2.1 s.2.2.2) (fun s=>Jq N s.2.2.1) ?_ h;rintro⟨x,w,t,q⟩ h;dsimp only at h ⊢;have hN:=c.nodes
 cases q with
 |nil =>
  exfalso;exact hp ⟨gv x,fun u v m o=>h.rel u (c.inr _ o).1.1 (c.inr _ o).1.2 (by simp) v m o⟩
 |cons n rest =>
  have a:=h.rng n (by simp);have hb:=h.bd n a.1 a.2;have ht:=h.t0 n a.1 a.2
  have U:rest.length<=1000000:=by
   have:=Pz N (n::rest) h.nodup h.rng;simp only[bO] at this;omega
  have f:=fun(H:NO Int->NO Bool->NO Int->NO Int->Nm ρ)=>PN (ρ:=ρ) c (least:=BS L) a h.lx h.lw h.lt U ⟨hb.1,by omega⟩ ⟨ht.1,by omega⟩ H P
  by_cases z:(N:Int)+1<gv t n+1
  ·exact .inl fun H=>by rw[f,if_pos z]; exact Z _ _ _ _
  ·have Q:(w.set n.toNat false).length=N:=by rw[dC]; exact h.lw
   cases V:kH n (BS L) L x (w.set n.toNat false) rest with
   |mk b r' =>
   obtain⟨Y,w',q'⟩:=r'
   cases b with
   |false=>exact .inl fun H=>by rw[f,if_neg z,V]; exact Z _ _ _ _
   |true =>
    have y:=h.nodup;rw[dL] at y
    have G:n.toNat<t.length:=by have:=h.lt; omega
    have ha:=gi a c.inr c.noloop h.lx Q y.2 (fun v h0 i=>by
     rw[O8 a.1 h0 (by have:=h.lw; omega)]
     by_cases d:v=n
     ·subst d; simp[y.1]
     ·rw[if_neg d,h.waits v h0 i]
      simp[d]) V
    obtain⟨l,o,W⟩:=ha.new;refine .inr ⟨(Y,w',t.set n.toNat (gv t n+1),q'),⟨ha.lx,ha.lw,by rw[dC]; exact h.lt,ha.nodup,fun v d=>?_,ha.waits,fun v h0 i=>?_,fun v h0 i=>?_,fun u h0 i T v m C=>?_⟩,Mp G (by omega),fun H=>by rw[f,if_neg z,V]⟩
    ·dsimp only at d;rw[o] at d;rcases List.mem_append.1 d with d|d
     ·exact h.rng v (by simp[d])
     ·exact(W v d).1
    ·try dsimp only
     rw[ro a.1 h0 G];have:=h.t0 v h0 i
     split<;>omega
    ·try dsimp only
     have h2:=h.bd v h0 i;rcases ha.chg v h0 i with g|⟨_,g2,m,g3,g4,g5⟩
     ·rw[g]; exact h2
     ·have h3:=IW (L:=L) (fun l o=>(c.most l o).1) c.m0;have h4:(L.length:Int)*M<=400*4503599627370496:=dR (by have:=c.len; omega) c.m1 c.m0 (by omega);omega
    ·dsimp only at T ⊢;have E:=(c.inr _ C).2
     have heq:gv Y u=gv x u:=by
      rcases ha.chg u h0 i with g|⟨g,_⟩
      ·exact g
      ·exact(T g).elim
     by_cases F:u=n
     ·subst F;have i:=ha.link v m C;omega
     ·have R:u∉n::rest:=by
       intro X;rcases bL.1 X with e|X
       ·exact F e
       ·exact T (by rw[o]; exact cn _ X)
      have h2:=h.rel u h0 i R v m C;have:=ha.le v E.1 E.2;omega
end
def Ta (N:Nat) (v:Int):Bool:=decide (0<=v)&&decide (v<(N:Int))
def Zi (s:Int) (v:Int):Bool:=v==s
def Kr (N:Nat):start (Ta N) N=List.replicate N 0:=by
 refine Qo (by simp[ò]) fun v h0 a=>?_;rw[ò] at a;rw[Ų _ h0 a]
 have:Ta N v=true:=by simp[Ta,h0,a]
 rw[if_pos this];unfold gv;rw[List.getElem?_replicate]
 split<;>rfl
def ų (L:NO Lk) (N:Nat):NO Int:=gz L N (start (Ta N) N)
def qk (L:NO Lk) (N:Nat):Bool:=decide (AI L (ų L N)=ų L N)
def rK (L:NO Lk) (N:Nat) (s:Int):NO Int:=gz L N (start (Zi s) N)
section
variable {L:NO Lk} {N:Nat} {M:Int}
def Xj (a:ţ L N M) (c:N<=200):N*M<g9:=by
 have:(N:Int)*M<=200*4503599627370496:=Int.mul_le_mul (by omega) a.m1 a.m0 (by omega);unfold g9;omega
def yz {p:Int->Int} (a:ţ L N M) (e:N<=200) (c:Pot L p):Tc L (fun v=>Ta N v=true) N (gv (ų L N)) :=
 Cu c a.inr (fun v h=>by simpa[Ta] using h) (fun l d=>(a.most l d).2) a.m0 (Xj a e) N (by omega)
def E7 {p:Int->Int} (a:ţ L N M) (f:N<=200) (d:Pot L p) {s:Int} (c:0<=s/\s<N):Tc L (fun v=>Zi s v=true) N (gv (rK L N s)) :=
 Cu d a.inr (fun v h=>by simp[Zi] at h; subst h; exact c) (fun l e=>(a.most l e).2) a.m0 (Xj a f) N (by omega)
def KQ:∀{L:NO Lk} {x:NO Int},(∀u v m,(u,v,m)∈L->gv x u<g9->gv x v<=gv x u+m)->AI L x=x
 |[],x,_=>rfl
 |l::t,x,h=>by
  have d:hO x l=x:=by
   unfold hO
   split
   ·rename_i c;have:=h l.1 l.2.1 l.2.2 (by simp) c.1;omega
   ·rfl
  show AI t (hO x l)=x;rw[d];exact KQ fun u v m a=>h u v m (by simp[a])
def qj (a:ţ L N M) (i:N<=200):qk L N=true↔∃p,Pot L p:=by
 unfold qk;rw[decide_eq_true_eq]
 have d:∀v:Int,0<=v->v<N->gv (ų L N) v<=0:=by
  intro v h0 f;have:=vX a.inr N (ò (Ta N) N) v h0;rw[Ų _ h0 f,if_pos (by simp[Ta,h0,f])] at this;exact this
 constructor
 ·intro h;refine⟨gv (ų L N),fun u v m c=>?_⟩;have e:=(a.inr _ c).1;have:=yH a.inr (x:=ų L N) (by unfold ų; rw[ī,ò]) u v m c (by have:=d u e.1 e.2; unfold g9; omega)
  rwa [h] at this
 ·rintro⟨p,g⟩;have hd:=yz a i g;exact KQ fun u v m c j=>hd.pot a.inr c (by omega)
end
section
variable {ρ:Type} {L:NO Lk} {N:Nat} {M:Int}
def xG (a:N<=1000) (x:Nm ρ):ä ((ile (0:Int) (N:Int))&&(Ü (Int.toNat (N:Int)))) x=x:=by
 rw[bU,É (by omega)]
 have:((ile (0:Int) (N:Int))&&true)=true:=by simp[ile]
 rw[this,Am.iff_true]
def NT (e:ţ L N M) (V:1<=N) (r:N<=200) (i:(Val (.pair .bool (.pair (.slice tI) (.pair (.slice .bool) (.pair (.slice tI) (.slice tI))))))->Nm ρ) {rT rF:Nm ρ}
 (T:qk L N=true->∀w t q,i (true,ų L N,w,t,q)=rT) (U:∀x w t q,i (false,x,w,t,q)=rF) :
 (Ó (fun(d:(Val (.pair tI (.pair (.slice .bool) (.slice tI))))) f=>ġ (N:Int) (List.replicate N (0:Int)) d.1 d.2.1 d.2.2 (fun z y s=>f (z,y,s)) (fun H=>Ó (fun(c:(Val (.pair (.slice tI) (.pair (.slice .bool) (.pair (.slice tI) (.slice tI)))))) g=>Ĉ [] (BS L) (N:Int) L c.1 c.2.1 c.2.2.1 c.2.2.2 (fun F E D C=>g (F,E,D,C)) i) ((List.replicate N (0:Int)),H.1,(List.replicate N (0:Int)),H.2))) ((0:Int),(List.replicate N false),([]:NO Int)))=if qk L N then rT else rF:=by
 refine Tr (by simp) (by omega) _ fun w q I O K j l=>?_
 try dsimp only
 have P:∀v,Ta N v=true->0<=v/\v<N:=fun v h=>by simpa[Ta] using h
 by_cases n:qk L N=true
 ·rw[if_pos n];obtain⟨p,o⟩:=(qj e r).1 n;have J:=GA e V P I O K j (fun v a b=>by rw[Kr]; exact l v a b);rw[Kr] at J;refine Kt e (Xj e r) o P i (fun x w t q Q hd=>?_) J
  have:x=ų L N:=by
   refine Qo (by rw[Q]; unfold ų; rw[ī,ò]) fun v a b=>?_;exact hd.uniq (yz e r o) a (by omega)
  rw[this]; exact T n w t q
 ·rw[if_neg n];refine WR e (fun o=>n ((qj e r).2 o)) i U ?_
  have G:∀v,gv (List.replicate N (0:Int)) v=0:=by
   intro v;unfold gv;rw[List.getElem?_replicate]
   split<;>rfl
  refine⟨by simp,I,by simp,O,K,j,fun v a b=>?_,fun v a b=>?_,fun u a b R v m W=>?_⟩
  ·rw[G]; omega
  ·rw[G]; omega
  ·exact(R ((l u a b).2 (by rw[G]; unfold g9; omega))).elim
end
def shift_ok {ρ:Type} {x:NO Int} (f:Int) (s:x.length<=1000) (u : -2305843009213693952<=f/\f<=2305843009213693952) (hb:∀a∈x,-2305843009213693952<=a/\a<=2305843009213693952) (l:NO Int->Nm ρ) :
 Ó (fun(d:BY) e=>ž f (ß x) d.1 d.2 (fun j h=>e (j,h)) l) ((0:Int),x)=l (x.map fun a=>a-f):=by
 refine ĥ x (fun i=>(x.take i).map (fun a=>a-f)++x.drop i) _ (by simp) (fun i a hi ha n=>?_) (fun n=>?_)
 ·try dsimp only
  unfold ž
  have m:((x.take i).map (fun a=>a-f)++x.drop i).length=x.length:=by simp; omega
  have c:((x.take i).map (fun a=>a-f)++x.drop i)[i]?=some a:=by
   rw[eT (by simp; omega)];simp only[cr,bY,dx];rw[<-ha]; congr 1; omega
  have g:i<((x.take i).map (fun a=>a-f)++x.drop i).length:=by omega
  have o:=hb a (bR ha);rw[Ð hi,ς g,Ě c,Õ (by omega) (by omega),ς g,Ě c,È hi (by omega),bU,take_succ ha];congr 2;rw[cG hi,ff,bS,List.set_append_right _ _ (by simp; omega)]
  have:i-(List.map (fun a=>a-f) (List.take i x)).length=0:=by simp; omega
  rw[this]
  have r:x[i]=a:=by rw[bG hi] at ha; simpa using ha
  simp[r]
 ·try dsimp only
  unfold ž;rw[Ý];simp
section
variable {L:NO Lk} {N:Nat} {M:Int}
def WU (c:ţ L N M) (h:N<=200) (m:qk L N=true):∀a∈ų L N,-2305843009213693952<=a/\a<=0:=by
 obtain⟨p,e⟩:=(qj c h).1 m;have hd:=yz c h e;intro a ha;obtain⟨i,hi,rfl⟩:=bZ.1 ha
 have f:(ų L N).length=N:=by unfold ų; rw[ī,ò]
 have h0:gv (ų L N) i=(ų L N)[i]:=by unfold gv; simp[hi]
 have d:=vX c.inr N (ò (Ta N) N) (i:Int) (by omega);rw[Ų _ (by omega) (by omega),if_pos (by simp[Ta]; omega)] at d;have g:gv (ų L N) i<=0:=d;obtain⟨vs,j⟩:=hd.att i (by omega) (by omega) (by unfold g9; omega);have s:=j.low' e;have r:=IW (L:=L) (fun l n=>(c.most l n).1) c.m0;have o:(L.length:Int)*M<=400*4503599627370496:=Int.mul_le_mul (by have:=c.len; omega) c.m1 c.m0 (by omega);omega
def solP (L:NO Lk) (N:Nat):NO Int:=(ų L N).map fun a=>a-gv (ų L N) 0
def NI (c:ţ L N M) (i:1<=N) (f:N<=200):mh ((N:Int),L) []=some (if qk L N then(solP L N,true) else([],false)):=by
 unfold mh qO
 try dsimp only
 rw[xG (by omega),xG (by omega),xG (by omega),bU];refine cB (Qk c _) ?_;refine cB (NT c i f _ (rT:=some (solP L N,true)) (rF:=some ([],false)) (fun g w t q=>?_) (fun x w t q=>?_)) ?_
 ·try dsimp only
  have d:(ų L N).length=N:=by unfold ų; rw[ī,ò]
  have hb:=WU c f g;have h0:ilt (0:Int) (Ć (ų L N))=true:=decide_eq_true (show(0:Int)<((ų L N).length:Int) by omega);have e:(ų L N)[0]?=some (gv (ų L N) 0):=Mz (v:=0) (show 0<_ by omega);have h:=hb _ (bR e);rw[show(!true)=false from rfl,ð,jq h0,wm e];exact shift_ok _ (by omega) ⟨h.1,by omega⟩ (fun a ha=>⟨(hb a ha).1,by have:=(hb a ha).2; omega⟩) _
 ·rfl
 ·cases qk L N<;>rfl
structure BE (L:NO Lk) (N:Nat):Prop where
 n1:1<=N
 n60:N<=60
 len:L.length<=300
 inr:InR L N
 noloop:∀l∈L,l.1≠l.2.1
 most:∀l∈L,-4503599627370496<=l.2.2/\l.2.2<=4503599627370496
def BE.links (h:BE L N):ţ L N 4503599627370496 :=
 ⟨h.inr,h.noloop,h.most,by have:=h.len; omega,by have:=h.n60; omega,by omega,by omega⟩
def BE.sub {d:NO Lk} (h:BE L N) (c:∀l∈d,l∈L) (e:d.length<=L.length):BE d N :=
 ⟨h.n1,h.n60,by have:=h.len; omega,fun l a=>h.inr l (c l a),fun l a=>h.noloop l (c l a),fun l a=>h.most l (c l a)⟩
def N2 (n:Int) (L:NO Lk) (v:Int):sJ (n,L) v=some (decide (0<=v)&&decide (v<n)):=by
 unfold sJ P0 ige
 by_cases h:0<=v
 ·have:decide (v>=0)=true:=by simpa using h
  rw[Û this]; simp[h]
 ·have:decide (v>=0)=false:=by simpa using h
  rw[Ñ this]; simp[h]
def yu (h:BE L N):ry ((N:Int),L)=some (0,-1):=by
 have n:=h.n1;have h2:=h.n60;have m:=h.len;unfold ry LX
 try dsimp only
 rw[Ñ (by simp[ilt]; omega),Ñ (by simp[igt]; omega),Ñ (by rw[á]; simp[igt]; omega)];refine cB (Γ L (fun _=>false) (fun i=>some (1,i)) (some (0,-1)) (fun i l hi e f=>?_) (fun f=>?_)) ?_
 ·try dsimp only
  unfold lU;have d:=List.mem_of_getElem? e;have a:=h.inr l d;have b:=h.noloop l d;have c:=h.most l d
  have j:(decide (0<=l.1)&&decide (l.1<(N:Int)))=true:=by simp[a.1.1,a.1.2]
  have g:(decide (0<=l.2.1)&&decide (l.2.1<(N:Int)))=true:=by simp[a.2.1,a.2.2]
  rw[Ð hi,Æ e,N2,À,j,N2,À,g];simp only[cJ,ð,bW,if_false];rw[Ñ (by simp[ieq,b]),Ñ (by simp[ilt]; omega),Ñ (by simp[igt]; omega),È hi (by omega)]
 ·try dsimp only
  unfold lU;rw[Ý]
 ·rw[cT.2 (by simp)]
def Js {ρ:Type} {x:NO Int} {v:Int} (h0:0<=v) (h:v.toNat<x.length) (f:Int->Nm ρ):è x v f=f (gv x v):=by
 obtain⟨i,rfl⟩:=dy h0;exact Æ (Mz h) f
def Sg (L:NO Lk) (x:NO Int):Bool:=L.all fun l=>decide (gv x l.2.1<=gv x l.1+l.2.2)
def Ns (h:BE L N) {x:NO Int} (C:x.length=N) (hb:∀a∈x,-g9<=a/\a<=g9):B4 ((N:Int),L) x=some (Sg L x&&gv x 0==0,0):=by
 have E:=h.n1;have h2:=h.n60;have D:=h.len;unfold B4 P1;rw[yu h,À]
 try dsimp only
 rw[Ñ (by rfl),Ñ (by rw[á,C]; simp[ine])]
 have d:Ó (fun(m:Int) f=>ip x L (ß L) m (fun n=>f n) (fun e=>some (e.1,e.2)) (fun _=>è x (0:Int) fun s=>some (ieq s (0:Int),(0:Int)))) (0:Int)=some (Sg L x&&gv x 0==0,0):=by
  refine cB (Ę L (fun l=>!decide (gv x l.2.1<=gv x l.1+l.2.2)) (fun _=>some (false,0)) (some (false,0)) (some (gv x 0==0,0)) (fun _=>rfl) (fun i l hi v o=>?_) (fun o=>?_)) ?_
  ·try dsimp only
   unfold ip;have u:=List.mem_of_getElem? v;have a:=h.inr l u;have c:=h.most l u
   have y:l.1.toNat<x.length:=by omega
   have r:=hb _ (List.mem_of_getElem? (Mz y));unfold g9 at r;rw[Ð hi,Æ v,Js a.2.1 (by omega),Js a.1.1 y,Õ (by omega) (by omega),È hi (by omega),û]
   by_cases g:gv x l.2.1<=gv x l.1+l.2.2
   ·rw[if_neg (by simp[igt]; omega),if_neg (by simp[g])]
   ·rw[if_pos (by simp[igt]; omega),if_pos (by simp[g])]
  ·try dsimp only
   unfold ip;rw[Ý,Js (by omega) (by rw[Int.toNat_zero]; omega)]
  ·unfold Sg;rw[show(L.any fun l=>!decide (gv x l.2.1<=gv x l.1+l.2.2))=!(L.all fun l=>decide (gv x l.2.1<=gv x l.1+l.2.2)) from by rw[List.all_eq_not_any_not]; simp]
   cases(L.all fun l=>decide (gv x l.2.1<=gv x l.1+l.2.2))<;>rfl
 refine cB (Ę x (fun _=>false) (fun z=>ifb (ige z (0:Int)) (some (false,(1:Int))) (some (Sg L x&&gv x 0==0,0))) (some (false,1)) (some (Sg L x&&gv x 0==0,0)) (fun j=>?_) (fun i a hi ha o=>?_) (fun o=>?_)) ?_
 ·rw[Û (by simp[ige])]
 ·try dsimp only
  unfold oz;have r:=hb a (List.mem_of_getElem? ha);unfold g9 at r;rw[Ð hi,Æ ha,Ñ (by simp[ilt]; omega),Ñ (by simp[igt]; omega),È hi (by omega)];simp
 ·try dsimp only
  unfold oz;rw[Ý];exact d
 ·simp
end
section
variable {b:ã}
def JJ (b:ã) (g:æ):(ê b g).Pairwise (·<·):=uT _
def MO (h:ť b) {g:æ} (i:g∈b.2.1):∃t,ê b g=g.2.1::t:=by
 have c:=JJ b g;have h2:=sS (b:=b) g;have f:∀d∈ê b g,g.2.1<=d:=fun d hd=>(h.day i hd).1
 cases hd:ê b g with
 |nil=>rw[hd] at h2; cases h2
 |cons a t =>
  rw[hd] at c h2 f;rw[cf] at c;rcases bL.1 h2 with e|e
  ·exact⟨t,by rw[e]⟩
  ·have:=c.1 _ e;have:=f a (by simp);omega
def off (b:ã) (i:Nat):Nat:=((b.2.1.take i).flatMap fun g=>(ê b g).map fun d=>((g.1,d):Int×Int)).length
def vg {i:Nat} {g:æ} (a:b.2.1[i]?=some g):Ø b=((b.2.1.take i).flatMap fun g=>(ê b g).map fun d=>((g.1,d):Int×Int))++(((ê b g).map fun d=>((g.1,d):Int×Int))++((b.2.1.drop (i+1)).flatMap fun g=>(ê b g).map fun d=>((g.1,d):Int×Int))):=by
 obtain⟨hi,rfl⟩:=bN.1 a
 have c:b.2.1=b.2.1.take i++(b.2.1[i]::b.2.1.drop (i+1)):=by
  rw[<-cG hi,List.take_append_drop]
 unfold Ø
 conv=>lhs; rw[c]
 rw[dE,cj]
def T3 (h:ť b) {i:Nat} {g:æ} (o:b.2.1[i]?=some g) {k:Nat} {d:Int} (r:(ê b g)[k]?=some d):f0 (Ø b) g.1 d=some (off b i+k):=by
 obtain⟨hi,l⟩:=List.getElem?_eq_some_iff.1 o;obtain⟨a,c⟩:=List.getElem?_eq_some_iff.1 r;unfold f0;rw[vg o,List.findIdx?_append,List.findIdx?_append]
 have s:List.findIdx? (fun n:Int×Int=>decide (g.1=n.1)&&decide (d=n.2)) ((b.2.1.take i).flatMap fun g=>(ê b g).map fun d=>((g.1,d):Int×Int))=none:=by
  rw[cT];intro x e;obtain⟨g',m,e⟩:=ci.1 e;obtain⟨u,_,rfl⟩:=dc.1 e;obtain⟨j,f,rfl⟩:=bZ.1 m;rw[bY] at f;rw[fq];have:=(dm.1 h.ids) j i (by omega) hi (by omega);rw[l] at this;simp only[Bool.and_eq_false_iff,decide_eq_false_iff_not];exact .inl (by omega)
 have h2:List.findIdx? (fun n:Int×Int=>decide (g.1=n.1)&&decide (d=n.2)) ((ê b g).map fun d=>((g.1,d):Int×Int))=some k:=by
  rw[cq];refine⟨by simpa using a,by simp[c],fun j f=>?_⟩;have:=(dm.1 (JJ b g)) j k (by omega) a f;rw[c] at this;simp only[List.getElem_map,bH,decide_eq_true_eq,not_and];intro _;omega
 rw[s,h2];simp only[Option.map_some,Option.some_or,Option.none_or];unfold off;congr 1;omega
def IU {i:Nat} {g:æ} (f:b.2.1[i]?=some g) {k:Nat} {d:Int} (a:(ê b g)[k]?=some d):(Ø b)[off b i+k]?=some (g.1,d):=by
 obtain⟨c,e⟩:=List.getElem?_eq_some_iff.1 a;rw[vg f,List.getElem?_append_right (by unfold off; omega),List.getElem?_append_left (by unfold off; simp; omega)];unfold off;simp[a]
def QQ (h:ť b) {i:Nat} {g:æ} (a:b.2.1[i]?=some g):atP (Ø b) [g.1] g.2.1=(off b i:Int)+1:=by
 obtain⟨t,c⟩:=MO h (List.mem_of_getElem? a);have:=T3 h a (k:=0) (d:=g.2.1) (by rw[c]; rfl);unfold atP;simp only[this];rfl
def TZ (h:ť b) {i:Nat} {g:æ} (a:b.2.1[i]?=some g):off b i+(ê b g).length<=(Ø b).length:=by
 rw[vg a];unfold off;simp only[List.length_append,List.length_map];omega
def Xe {i:Nat} {g:æ} (a:b.2.1[i]?=some g):off b (i+1)=off b i+(ê b g).length:=by
 unfold off;rw[take_succ a,List.flatMap_append];simp
def Ll (h:ť b) {c:Cmp} (s:c∈b.2.2.2.2.1) {x:Int} (r:(x∈c.2.2.1/\x∉c.2.2.2.1)\/(x∈c.2.2.2.1/\x∉c.2.2.1)):∃j,f0 (Ø b) x c.2.1=some j:=by
 have u:x∈c.2.2.1++c.2.2.2.1:=by rw[bJ]; exact r.imp (·.1) (·.1)
 obtain⟨⟨g,y,_⟩,_⟩:=h.pile s u;obtain⟨f,a⟩:=i7 y;obtain⟨i,hi,l⟩:=bZ.1 f
 have hd:c.2.1∈ê b g:=rG.2 (.inr (.inl ⟨c,s,by
  rw[a];rcases r with⟨m,h2⟩|⟨m,h2⟩
  ·have o:c.2.2.1.contains x=true:=by simpa using m
   have n:c.2.2.2.1.contains x=false:=by simpa using h2
   rw[o,n]; simp
  ·have o:c.2.2.2.1.contains x=true:=by simpa using m
   have n:c.2.2.1.contains x=false:=by simpa using h2
   rw[o,n]; simp,rfl⟩))
 obtain⟨k,v,e⟩:=bZ.1 hd;have:=T3 h (g:=g) (i:=i) (by rw[bG hi,l]) (k:=k) (d:=c.2.1) (by rw[bG v,e]);rw[a] at this;exact⟨_,this⟩
inductive S6 (b:ã) (p:List Int) (d:Int) (n:Int):Prop
 |none:p=[]->n=0->S6 b p d n
 |one (x:Int) (j:Nat):p=[x]->f0 (Ø b) x d=some j->n=(j:Int)+1->S6 b p d n
def OB (h:ť b) {c:Cmp} (f:c∈b.2.2.2.2.1):S6 b (â c.2.2.1 c.2.2.2.1) c.2.1 (cx b c):=by
 have d:=(h.lefts f).1
 cases a:â c.2.2.1 c.2.2.2.1 with
 |nil=>exact .none rfl (by unfold cx atP; rw[a])
 |cons x t =>
  rw[a] at d
  have:t=[]:=by cases t with|nil=>rfl|cons=>simp at d
  subst this;obtain⟨j,e⟩:=Ll h f (x:=x) (.inl (iW.1 (by rw[a]; simp)));exact .one x j rfl e (by unfold cx atP; rw[a]; simp only[e])
def JL (h:ť b) {c:Cmp} (f:c∈b.2.2.2.2.1):S6 b (â c.2.2.2.1 c.2.2.1) c.2.1 (cy b c):=by
 have d:=(h.lefts f).2.1
 cases a:â c.2.2.2.1 c.2.2.1 with
 |nil=>exact .none rfl (by unfold cy atP; rw[a])
 |cons x t =>
  rw[a] at d
  have:t=[]:=by cases t with|nil=>rfl|cons=>simp at d
  subst this;obtain⟨j,e⟩:=Ll h f (x:=x) (.inr (iW.1 (by rw[a]; simp)));exact .one x j rfl e (by unfold cy atP; rw[a]; simp only[e])
def S6.rng {p:NO Int} {d n:Int} (h:S6 b p d n):0<=n/\n<((Ø b).length+1:Nat):=by
 rcases h with⟨_,h⟩|⟨x,j,_,a,h2⟩
 ·omega
 ·have:=(mZ a).1;omega
def XN (h:ť b) {c:Cmp} (d:c∈b.2.2.2.2.1):cx b c≠cy b c:=by
 have l:=(h.lefts d).2.2;rcases OB h d with⟨g,h2⟩|⟨x,j,g,h2,r⟩
 ·rcases JL h d with⟨a,f⟩|⟨y,k,a,f,n⟩
  ·rw[g,a] at l; simp at l
  ·omega
 ·rcases JL h d with⟨a,f⟩|⟨y,k,a,f,n⟩
  ·omega
  ·intro e
   have:j=k:=by omega
   subst this;have o:=(mZ h2).2;have i:=(mZ f).2;rw[o] at i;simp only[Option.some.injEq,Prod.mk.injEq] at i
   have m1:x∈â c.2.2.1 c.2.2.2.1:=by rw[g]; simp
   have m:y∈â c.2.2.2.1 c.2.2.1:=by rw[a]; simp
   rw[i.1] at m1;exact(iW.1 m1).2 (iW.1 m).1
def Eh (h:ť b):(fK b).length=2*(Ø b).length+2*b.2.2.2.2.1.length:=by
 have i:∀l:NO æ,(∀g∈l,g∈b.2.1)->(l.flatMap (õ b)).length=2*(l.flatMap fun g=>(ê b g).map fun d=>((g.1,d):Int×Int)).length:=by
  intro l
  induction l with
  |nil=>intro _; rfl
  |cons g t a =>
   intro e;have:=a fun g f=>e g (by simp[f]);have j:=List.length_pos_of_mem (sS (b:=b) g);simp only[List.flatMap_cons,List.length_append,List.length_map,this];unfold õ;rw[List.length_append,ř _ _ (fun _=>rfl)];simp only[List.length_cons,List.length_nil];omega
 have h2:∀l:NO Cmp,(l.flatMap (ĭ b)).length=2*l.length:=by
  intro l
  induction l with
  |nil=>rfl
  |cons c t a =>
   simp only[cj,bI,a,ĭ,bO,bV];omega
 unfold fK;rw[List.length_append,i _ fun _ h=>h,h2];rfl
def Ge (h:ť b) {i:Nat} {g:æ} (m:b.2.1[i]?=some g) {l:Lk}:l∈õ b g ↔
 l=(0,(off b i:Int)+1,g.2.2.1+g.2.2.2.1.2)\/l=((off b i:Int)+1,0,-(g.2.2.1+g.2.2.2.1.1)) \/
 ∃(k:Nat) (d e:Int),(ê b g)[k]?=some d/\(ê b g)[k+1]?=some e/\(l=((off b i:Int)+k+1,(off b i:Int)+k+2,0)\/l=((off b i:Int)+k+2,(off b i:Int)+k+1,la b g d e)):=by
 unfold õ;rw[QQ h m];simp only[List.mem_append,List.mem_cons,List.not_mem_nil,or_false,List.mem_flatMap,List.mem_range];constructor
 ·rintro((a|a)|⟨k,n,a⟩)
  ·exact .inl a
  ·exact .inr (.inl a)
  ·refine .inr (.inr ⟨k,(ê b g)[k],(ê b g)[k+1],bG (by omega),bG (by omega),?_⟩);rw[bG (show k<(ê b g).length by omega),bG (show k+1<(ê b g).length by omega)] at a;simp only[dQ] at a
   have f:(off b i:Int)+1+k=(off b i:Int)+k+1:=by omega
   have c:(off b i:Int)+k+1+1=(off b i:Int)+k+2:=by omega
   rw[f,c] at a;exact a
 ·rintro(a|a|⟨k,d,e,hd,j,a⟩)
  ·exact .inl (.inl a)
  ·exact .inl (.inr a)
  ·obtain⟨h2,rfl⟩:=bN.1 hd;obtain⟨o,rfl⟩:=bN.1 j;refine .inr ⟨k,by omega,?_⟩;rw[hd,j];simp only[dQ]
   have f:(off b i:Int)+1+k=(off b i:Int)+k+1:=by omega
   have c:(off b i:Int)+k+1+1=(off b i:Int)+k+2:=by omega
   rw[f,c];exact a
def RU {l:Lk}:l∈fK b↔(∃(i:Nat) (g:æ),b.2.1[i]?=some g/\l∈õ b g)\/∃c∈b.2.2.2.2.1,l=(cy b c,cx b c,(vT b c).2)\/l=(cx b c,cy b c,-(vT b c).1):=by
 unfold fK;simp only[List.mem_append,List.mem_flatMap,ĭ,List.mem_cons,List.not_mem_nil,or_false];constructor
 ·rintro(⟨g,a,h⟩|h)
  ·obtain⟨i,hi,rfl⟩:=bZ.1 a;exact .inl ⟨i,_,bG hi,h⟩
  ·exact .inr h
 ·rintro(⟨i,g,a,h⟩|h)
  ·exact .inl ⟨g,bR a,h⟩
  ·exact .inr h
def ť.sys (h:ť b):BE (fK b) ((Ø b).length+1):=by
 have F:=h.nodes;have G:=h.links
 have j:∀l∈fK b,((0<=l.1/\l.1<((Ø b).length+1:Nat))/\(0<=l.2.1/\l.2.1<((Ø b).length+1:Nat)))/\l.1≠l.2.1/\(-4503599627370496<=l.2.2/\l.2.2<=4503599627370496):=by
  intro l f;rcases RU.1 f with⟨i,g,o,f⟩|⟨c,n,f⟩
  ·have m:=bR o;have r:=h.gaugeR m;have E:=TZ h o;have D:=eA (sS (b:=b) g);have r1:=r.2.2.2.2.2.1;have r2:=r.2.2.2.2.2.2.1;rcases(Ge h o).1 f with rfl|rfl|⟨k,d,e,hd,s,u⟩
   ·dsimp only; omega
   ·dsimp only; omega
   ·obtain⟨h2,_⟩:=bN.1 s;have v:=h.day m (bR hd);have C:=kF h m (t:=e) v.2.1;rcases u with rfl|rfl
    ·dsimp only; omega
    ·dsimp only; omega
  ·have a:=(OB h n).rng;have H:=(JL h n).rng;have z:=XN h n;have y:=uU h n;rcases f with rfl|rfl
   ·dsimp only; omega
   ·dsimp only; omega
 exact⟨by omega,by omega,by rw[Eh h]; omega,fun l f=>(j l f).1,fun l f=>(j l f).2.1,fun l f=>(j l f).2.2⟩
end
def xz (b:ã) (x:NO Int):Bool:=decide (x.length=(Ø b).length)&&x.all fun n=>inP n (-4503599627370496) 4503599627370496
def RW {m:Maker} {x:NO Int} (e:m.2.1.length<=1000000):ζ m x=some (if decide (x.length=m.2.1.length)&&x.all fun n=>inP n (-4503599627370496) 4503599627370496 then 0 else 1):=by
 unfold ζ ny
 by_cases c:x.length=m.2.1.length
 ·rw[Ñ (by rw[á,á,c]; simp[ine])];refine cB (Ę x (fun n=>!inP n (-4503599627370496) 4503599627370496) (fun z=>ifb (ige z 0) (some 1) (some 0)) (some 1) (some 0) (fun j=>?_) (fun i a hi ha d=>?_) (fun d=>?_)) ?_
  ·rw[Û (by simp[ige])]
  ·try dsimp only
   unfold Œ;rw[Ð hi,Æ ha,Ń,À,È hi (by omega),û]
  ·try dsimp only
   unfold Œ;rw[Ý]
  ·rw[show(x.any fun n=>!inP n (-4503599627370496) 4503599627370496)=!(x.all fun n=>inP n (-4503599627370496) 4503599627370496) from by rw[List.all_eq_not_any_not]; simp]
   cases(x.all fun n=>inP n (-4503599627370496) 4503599627370496)<;>simp[c]
 ·rw[Û (by rw[á,á]; simp[ine]; omega)];simp[c]
def ZC (b:ã) (x:NO Int):Bool:=Sg (fK b) (0::x)
def Ys (b:ã) (x:NO Int):Bool×Int:=if ë b≠0 then(false,ë b) else if xz b x then(ZC b x,0) else(false,1)
def Lv {b:ã} (h:ť b) {x:NO Int} (d:xz b x=true) (c:NO (Int×Int)):iE (b,Ø b,(((Ø b).length:Int)+1,fK b),c) x=some (ZC b x):=by
 simp only[xz,Bool.and_eq_true,decide_eq_true_eq,List.all_eq_true,inP] at d;have f:=h.nodes;unfold iE uA;rw[jq (É (by simp only[List.length_singleton]; omega))]
 have:=Ns h.sys (x:=[0]++x) (by simp; omega) (fun a ha=>by
  unfold g9;rcases List.mem_append.1 ha with ha|ha
  ·simp at ha; omega
  ·have:=d.2 a ha; omega)
 rw[show(((Ø b).length:Int)+1)=(((Ø b).length+1:Nat):Int) by push_cast; rfl]
 try dsimp only
 rw[this,À];unfold ZC;have e:gv ([0]++x) 0=0:=rfl;rw[e];simp
def Wy {b:ã} (c:ŏ b) (d:∀g∈b.2.1,I64 g.2.2.2.2.1.1) (x:NO Int):xY b x=some (Ys b x):=by
 unfold xY Qe Ys;rw[mn c d,À]
 by_cases a:ë b=0
 ·have h:=(Ĵ b).1 a;have f:=h.nodes;rw[Ñ (by simp[ine,a]),I0 h,À,RW (by dsimp only; omega),À,if_neg (show ¬(ë b≠0) from fun h=>h a)];rw[show(decide (x.length=(b,Ø b,(((Ø b).length:Int)+1,fK b),BK b).2.1.length)&&x.all fun n=>inP n (-4503599627370496) 4503599627370496)=xz b x from rfl]
  cases e:xz b x with
  |false=>rfl
  |true =>
   rw[if_pos rfl,Ñ (by rfl),Lv h e,À,if_pos rfl]
 ·rw[Û (by simp[ine,a]),if_pos a]
def VP {ρ:Type}:@oy ρ=@ŕ ρ:=rfl
def VO {ρ:Type}:@ox ρ=@ġ ρ:=rfl
def VN {ρ:Type}:@ow ρ=@Ĉ ρ:=rfl
def Mw {ρ:Type} {N:Nat} (a:N<=1000) (x:Nm ρ):ä ((ile (0:Int) (N:Int))&&(Ü N)) x=x:=by
 have:=xG a x
 rwa [bU] at this
section
variable {L:NO Lk} {N:Nat} {M:Int}
def Tq {s:Int} (c:0<=s/\s<N):(List.replicate N g9).set s.toNat 0=start (Zi s) N:=by
 refine Qo (by simp[ò]) fun v h0 d=>?_
 have a:v<N:=by simpa using d
 rw[Ų _ h0 a,ro c.1 h0 (by simp; omega)];unfold Zi
 by_cases h:v=s
 ·simp[h]
 ·simp only[h,if_false,beq_iff_eq];unfold gv;rw[List.getElem?_replicate]
  have:v.toNat<N:=by omega
  simp[this]
def VM (c:ţ L N M) (F:1<=N) (m:N<=200) (E:qk L N=true) {s:Int} (d:0<=s/\s<N):sK ((N:Int),L) [] s=some (rK L N s):=by
 obtain⟨p,n⟩:=(qj c m).1 E;unfold sK yW;rw[VP,VO,VN];dsimp only;rw[xG (by omega),Int.toNat_natCast];refine ĥ (List.replicate N (0:Int)) (fun i=>List.replicate i g9++List.replicate (N-i) 0) _ (by simp) (fun i a hi ha u=>?_) (fun u=>?_)
 ·dsimp only;unfold jN
  have l:i<N:=by simpa using hi
  have o:i<(List.replicate i g9++List.replicate (N-i) (0:Int)).length:=by simp; omega
  rw[Ð hi,ς o,Ě (bG o),È l (by omega),bU];congr 2;rw[List.set_append_right _ _ (by simp)]
  have:N-i=(N-(i+1))+1:=by omega
  rw[this,dY,Nat.sub_self,List.replicate_succ,List.set_cons_zero,List.replicate_succ'];simp
 ·try dsimp only
  unfold jN;rw[Ý];dsimp only
  have G:List.replicate (List.replicate N (0:Int)).length g9++List.replicate (N-(List.replicate N (0:Int)).length) 0=List.replicate N g9:=by simp
  rw[G]
  have e:s.toNat<(List.replicate N g9).length:=by simp; omega
  rw[show Ć (List.replicate N g9)=((N:Nat):Int) by simp[Ć],ji d.1 d.2,ks e,Mw (by omega),Mw (by omega),Tq d];refine cB (Qk c _) ?_
  have r:∀v,Zi s v=true->0<=v/\v<N:=fun v h=>by simp[Zi] at h; subst h; exact d
  refine Tr (ò _ _) (by omega) _ fun w q z D C f j=>?_;have g:=GA c F r z D C f j;refine Kt c (Xj c m) n r _ (fun x w t q y hd=>?_) g
  have:x=rK L N s:=by
   refine Qo (by rw[y]; unfold rK; rw[ī,ò]) fun v a b=>?_;exact hd.uniq (E7 c m n d) a (by omega)
  dsimp only;rw[this]
def nY (L:NO Lk) (N:Nat) (s t:Int):Int×Int :=
 if !qk L N then(0,9) else if gv (rK L N s) t=g9 then(0,5) else(gv (rK L N s) t,0)
def Yb (h:BE L N) {c:NO Int} (g:∀n∈c,0<=n/\n<N) (j:c.length<=1000):xT ((N:Int),L) c=some (if qk L N then 0 else 9):=by
 have h2:=h.n60;unfold xT LW;rw[yu h,À];dsimp only;rw[Ñ (by rfl)];refine Eq.trans (Γ c (fun _=>false) (fun _=>some 1) (some (if qk L N then 0 else 9)) (fun i n hi d f=>?_) (fun f=>?_)) ?_
 ·try dsimp only
  unfold lT;have a:=g n (List.mem_of_getElem? d)
  have e:(decide (0<=n)&&decide (n<(N:Int)))=true:=by simp[a.1,a.2]
  rw[Ð hi,Æ d,N2,À,e,È hi (by omega)];simp
 ·try dsimp only
  unfold lT;rw[Ý,NI h.links h.n1 (by omega),À]
  cases qk L N<;>rfl
 ·rw[cT.2 (by simp)]
def Q5 (h:BE L N) {s t:Int} (f:0<=s/\s<N) (e:0<=t/\t<N):rz ((N:Int),L) s t=some (nY L N s t):=by
 have h2:=h.n60;unfold rz LY nY
 rw[Yb h (fun n d=>by simp at d; rcases d with rfl|rfl<;>assumption) (by simp),À]
 by_cases a:qk L N=true
 ·rw[if_pos a,Ñ (by rfl),VM h.links h.n1 (by omega) a f,À,Js e.1 (by unfold rK; rw[ī,ò]; omega),û,if_neg (show ¬(!qk L N)=true by simp[a])]
  by_cases c:gv (rK L N s) t=g9
  ·rw[if_pos (by simpa[ieq] using c),if_pos c]
  ·rw[if_neg (by simpa[ieq] using c),if_neg c]
 ·rw[if_neg a,Û (by rfl),if_pos (show(!qk L N)=true by simpa using a)]
end
def gf (b:ã) (c:Cmp):ã:=(b.1,b.2.1,b.2.2.1,b.2.2.2.1,b.2.2.2.2.1++[c],b.2.2.2.2.2)
def Gs:ã:=((0,0),[],[],[],[],[])
def Gt (b:ã) (c:Cmp):ã×Int:=if ë b≠0 then(Gs,ë b) else if ë (gf b c)≠0 then(Gs,ë (gf b c)) else(gf b c,0)
def Ua {b:ã} (h:ť b) {c:Cmp} (f:c.2.2.1.length<=1000) (e:c.2.2.2.1.length<=1000):ŏ (gf b c):=by
 have a:=h.size;have:=h.nC;refine⟨a.gauges,a.uses,a.loans,by simp[gf]; omega,a.looks,fun d hd=>?_⟩;rcases bJ.1 (show d∈b.2.2.2.2.1++[c] from hd) with hd|hd
 ·exact a.piles d hd
 ·simp at hd; subst hd; exact⟨f,e⟩
def ZZ {b:ã} (e:ŏ b) (j:∀g∈b.2.1,I64 g.2.2.2.2.1.1) {c:Cmp} (o:c.2.2.1.length<=1000) (n:c.2.2.2.1.length<=1000):sM b c=some (Gt b c):=by
 unfold sM Qb Gt;have z:=e.gauges; have h2:=e.uses; have y:=e.loans; have v:=e.compares; have u:=e.looks;rw[É (by omega),Am.iff_true,É (by omega),Am.iff_true,mn e j,À]
 by_cases f:ë b=0
 ·have h:=(Ĵ b).1 f;rw[Ñ (by simp[ine,f]),É (by omega),Am.iff_true,É (by omega),Am.iff_true,É (by omega),Am.iff_true,É (by omega),Am.iff_true,É (by omega),Am.iff_true,if_neg (show ¬(ë b≠0) from fun h=>h f)];refine ĥ b.2.2.2.2.1 (fun _=>b.2.2.2.2.1) _ rfl (fun i d hi hd m=>?_) (fun m=>?_)
  ·dsimp only;unfold oN;obtain⟨s,r⟩:=e.piles d (List.mem_of_getElem? hd)
   have l:b.2.2.2.2.1.set i d=b.2.2.2.2.1:=by
    obtain⟨h,rfl⟩:=bN.1 hd;exact List.set_getElem_self h
   rw[Ð hi,ς hi,Ě hd,É (by omega),Am.iff_true,É (by omega),Am.iff_true,ς hi,Ě hd,bU];rw[show(d.1,d.2.1,d.2.2.1,d.2.2.2)=d from rfl,l,ς hi,wm hd,È hi (by omega)];rw[show(d.1,d.2.1,d.2.2.1,d.2.2.2.1,d.2.2.2.2)=d from rfl,l]
  ·try dsimp only
   unfold oN;rw[Ý];dsimp only;rw[É (by simp only[List.length_singleton]; omega),Am.iff_true];rw[show Ē (b.1,b.2.1,b.2.2.1,b.2.2.2.1,b.2.2.2.2.1++[c],b.2.2.2.2.2)=Ē (gf b c) from rfl,mn (Ua h o n) j,À]
   by_cases a:ë (gf b c)=0
   ·rw[Ñ (by simp[ine,a]),if_neg (show ¬(ë (gf b c)≠0) from fun h=>h a)];rfl
   ·rw[Û (by simp[ine,a]),if_pos a];rfl
 ·rw[Û (by simp[ine,f]),if_pos f];rfl
def Ë (c:Cmp):Cmp:=(c.1,c.2.1,c.2.2.1,c.2.2.2.1,0,c.2.2.2.2.2)
def lowP (b:ã) (c:Cmp):Int:=Bz (ĝ b c).1+(gj b c).1-c.2.2.2.2.2.1
def Zv (b:ã) (c:Cmp):Int:=(ĝ b c).2.1 / (ĝ b c).2.2+(gj b c).2+c.2.2.2.2.2.1
def Ts (b:ã) (c:Cmp) (s:Int×Int):(Int×Int)×Int:=if Zv b c<lowP b c then((0,0),5) else((s.1+lowP b c,s.2+Zv b c),0)
structure O6 (b:ã) (c:Cmp):Prop where
 nums:vf c=true
 r1:lg (vV (Ġ b) (â c.2.2.1 c.2.2.2.1)) 1000 100
 r2:lg (vV (Ġ b) (â c.2.2.2.1 c.2.2.1)) 1000 100
def ť.cmp {b:ã} (h:ť b) {c:Cmp} (a:c∈b.2.2.2.2.1):O6 b c:=⟨h.nums a,(h.rates a).1,(h.rates a).2⟩
def zP {b:ã} (i:0<=b.1.1/\b.1.1<=b.1.2/\b.1.2<=1000000) {c:Cmp} (h:O6 b c):lg (ĝ b c).1 2000000000 10000/\lg (ĝ b c).2 2000000000 10000/\(-3000000000<=Bz (ĝ b c).1+(gj b c).1/\Bz (ĝ b c).1+(gj b c).1<=3000000000) /\
 (-3000000000<=(ĝ b c).2.1 / (ĝ b c).2.2+(gj b c).2/\(ĝ b c).2.1 / (ĝ b c).2.2+(gj b c).2<=3000000000)/\(0<=c.2.2.2.2.2.1/\c.2.2.2.2.2.1<=1073741824):=by
 have a:=(Ŕ c).1 h.nums;have ha:=Ă a.2.2.2.2.2.1;have hb:=Ă a.2.2.2.2.2.2;obtain⟨g,f⟩:=IJ (Ck h.r1 h.r2) a.2.2.2.2.1;have j:=oV (b:=b) (c:=c) (by omega) (by omega) (by omega) (by omega) (by omega) (by omega);have e:lg (ĝ b c).1 2000000000 10000:=g;have d:lg (ĝ b c).2 2000000000 10000:=f;have m:=sW e;have l:=oT d;exact⟨e,d,by omega,by omega,a.2.2.2.1⟩
def WX {b:ã} (g:ŏ b) (i:0<=b.1.1/\b.1.1<=b.1.2/\b.1.2<=1000000) {c:Cmp} (h:O6 b c) {s:Int×Int} (j : -2305843009213693952<=s.1/\s.1<=2305843009213693952) (h2 : -2305843009213693952<=s.2/\s.2<=2305843009213693952):nT b c s=some (Ts b c s):=by
 have d:=(Ŕ c).1 h.nums;have ha:=Ă d.2.2.2.2.2.1;have hb:=Ă d.2.2.2.2.2.2;obtain⟨f,e,m,l,b3⟩:=zP i h;unfold nT L8 Ts lowP Zv;rw[MA g (by omega) (by omega) h.r1 h.r2 d.2.2.2.2.1,À,Qv (by omega) (by omega) (by omega) (by omega) (by omega) (by omega),À,Wz f.rat,À,Q3 e.rat,À];dsimp only;rw[Õ (by omega) (by omega),Õ (by omega) (by omega),Õ (by omega) (by omega),Õ (by omega) (by omega),û]
 by_cases a:(ĝ b c).2.1 / (ĝ b c).2.2+(gj b c).2+c.2.2.2.2.2.1<Bz (ĝ b c).1+(gj b c).1-c.2.2.2.2.2.1
 ·rw[if_pos (by simpa[igt] using a),if_pos a]
 ·rw[if_neg (by simpa[igt] using a),if_neg a,Õ (by omega) (by omega),Õ (by omega) (by omega)]
def Δ (b:ã):NO Lk:=(fK b).take ((fK b).length-2)
def Ce (b:ã) (c:Cmp):(Int×Int)×Int :=
 if (Gt b (Ë c)).2≠0 then((0,0),(Gt b (Ë c)).2) else
 if (nY (Δ (gf b (Ë c))) ((Ø (gf b (Ë c))).length+1) (cy (gf b (Ë c)) (Ë c)) (cx (gf b (Ë c)) (Ë c))).2≠0 then
  ((0,0),(nY (Δ (gf b (Ë c))) ((Ø (gf b (Ë c))).length+1) (cy (gf b (Ë c)) (Ë c)) (cx (gf b (Ë c)) (Ë c))).2) else
 if (nY (Δ (gf b (Ë c))) ((Ø (gf b (Ë c))).length+1) (cx (gf b (Ë c)) (Ë c)) (cy (gf b (Ë c)) (Ë c))).2≠0 then
  ((0,0),(nY (Δ (gf b (Ë c))) ((Ø (gf b (Ë c))).length+1) (cx (gf b (Ë c)) (Ë c)) (cy (gf b (Ë c)) (Ë c))).2) else
 Ts b (Ë c) (-(nY (Δ (gf b (Ë c))) ((Ø (gf b (Ë c))).length+1) (cx (gf b (Ë c)) (Ë c)) (cy (gf b (Ë c)) (Ë c))).1,
  (nY (Δ (gf b (Ë c))) ((Ø (gf b (Ë c))).length+1) (cy (gf b (Ë c)) (Ë c)) (cx (gf b (Ë c)) (Ë c))).1)
def Nt {L:NO Lk} {N:Nat} (h:BE L N) {s t:Int} (g:0<=s/\s<N) (a:0<=t/\t<N) : -2305843009213693952<=(nY L N s t).1/\(nY L N s t).1<=2305843009213693952:=by
 unfold nY;have h2:=h.n60
 split
 ·simp
 ·rename_i i
  have c:qk L N=true:=by simpa using i
  obtain⟨p,e⟩:=(qj h.links (by omega)).1 c;have hd:=E7 h.links (by omega) e g
  split
  ·simp
  ·rename_i d;dsimp only;have hb:=hd.bd t a.1 a.2;obtain⟨vs,f⟩:=hd.att t a.1 a.2 d;have o:=f.low' e;have n:=IW (L:=L) (fun l j=>(h.most l j).1) (M:=4503599627370496) (by omega);have m:=h.len;unfold g9 at hb
   constructor<;>omega
def SZ {b:ã} (s:ŏ b) (u:∀g∈b.2.1,I64 g.2.2.2.2.1.1) {c:Cmp} (r:c.2.2.1.length<=1000) (G:c.2.2.2.1.length<=1000):kS b c=some (Ce b c):=by
 unfold kS D6 Ce;rw[show sM b (c.1,c.2.1,c.2.2.1,c.2.2.2.1,0,c.2.2.2.2.2)=sM b (Ë c) from rfl,ZZ s u (c:=Ë c) r G,À]
 by_cases e:(Gt b (Ë c)).2=0
 ·rw[Ñ (by simp[ine,e]),if_neg (show ¬((Gt b (Ë c)).2≠0) from fun h=>h e)]
  -- the book is valid, and so is the greater one
  have hb:ë b=0:=by
   unfold Gt at e
   split at e
   ·rename_i h; exact(h e).elim
   ·rename_i h; simpa using h
  have o:ë (gf b (Ë c))=0:=by
   unfold Gt at e;rw[if_neg (by simp[hb])] at e
   split at e
   ·rename_i h; exact(h e).elim
   ·rename_i h; simpa using h
  have C:Gt b (Ë c)=(gf b (Ë c),0):=by
   unfold Gt;rw[if_neg (by simp[hb]),if_neg (by simp[o])]
  have g:=(Ĵ b).1 hb;have f:=(Ĵ _).1 o
  have a:Ë c∈(gf b (Ë c)).2.2.2.2.1:=by simp[gf]
  have Q:=f.nodes;have v:=Eh f
  have D:(gf b (Ë c)).2.2.2.2.1.length=b.2.2.2.2.1.length+1:=by simp[gf]
  have y:=f.links;have d:BE (Δ (gf b (Ë c))) ((Ø (gf b (Ë c))).length+1):=f.sys.sub (fun l z=>List.mem_of_mem_take z) (by unfold Δ; rw[List.length_take]; omega);have j:=(OB f a).rng;have i:=(JL f a).rng;have P:c.2.2.1.length<=1000:=r;rw[C];dsimp only;rw[I0 f,À];dsimp only;rw[á,Õ (by omega) (by omega)]
  have J:((ile (0:Int) (((fK (gf b (Ë c))).length:Int)-2))&&(ile (((fK (gf b (Ë c))).length:Int)-2) (Ć (fK (gf b (Ë c))))))=true:=by
   simp[ile,Ć]; omega
  have I:(((fK (gf b (Ë c))).length:Int)-2).toNat=(fK (gf b (Ë c))).length-2:=by omega
  rw[jq J,mD (by omega) (by omega),À,V4 _ _ _ (by dsimp only; omega),À,mD (by omega) (by omega),À,V4 _ _ _ (by dsimp only; omega),À,I]
  have H:(((Ø (gf b (Ë c))).length:Int)+1)=(((Ø (gf b (Ë c))).length+1:Nat):Int):=by push_cast; rfl
  rw[H];rw[show List.take ((fK (gf b (Ë c))).length-2) (fK (gf b (Ë c)))=Δ (gf b (Ë c)) from rfl];dsimp only;rw[show atP (Ø (gf b (Ë c))) (â c.2.2.1 c.2.2.2.1) c.2.1=cx (gf b (Ë c)) (Ë c) from rfl,show atP (Ø (gf b (Ë c))) (â c.2.2.2.1 c.2.2.1) c.2.1=cy (gf b (Ë c)) (Ë c) from rfl];rw[Q5 d i j,À,Q5 d j i];have O:=Nt d i j;have K:=Nt d j i;generalize F:nY (Δ (gf b (Ë c))) ((Ø (gf b (Ë c))).length+1) (cy (gf b (Ë c)) (Ë c)) (cx (gf b (Ë c)) (Ë c))=B1 at O ⊢;generalize E:nY (Δ (gf b (Ë c))) ((Ø (gf b (Ë c))).length+1) (cx (gf b (Ë c)) (Ë c)) (cy (gf b (Ë c)) (Ë c))=B2 at K ⊢
  by_cases m:B1.2=0
  ·rw[Ñ (by simp[ine,m]),if_neg (show ¬(B1.2≠0) from fun h=>h m),À]
   by_cases h2:B2.2=0
   ·rw[Ñ (by simp[ine,h2]),if_neg (show ¬(B2.2≠0) from fun h=>h h2),Õ (by omega) (by omega)];have n:O6 b (Ë c):=⟨(f.cmp a).nums,(f.cmp a).r1,(f.cmp a).r2⟩;rw[show nT b (c.1,c.2.1,c.2.2.1,c.2.2.2.1,0,c.2.2.2.2.2) (0-B2.1,B1.1)=nT b (Ë c) (0-B2.1,B1.1) from rfl,WX g.size g.film n (by dsimp only; omega) (by dsimp only; omega),À,Int.zero_sub]
   ·rw[Û (by simp[ine,h2]),if_pos h2]
  ·rw[Û (by simp[ine,m]),if_pos m]
 ·rw[Û (by simp[ine,e]),if_pos e]
structure In (b:ã):Prop where
 size:ŏ b
 num:∀g∈b.2.1,I64 g.2.2.2.2.1.1
def Ws (b:ã):NO (Int×Int)×Int:=if ë b≠0 then([],ë b) else(Ø b,0)
def Yq {b:ã} (h:In b):xX b=some (Ws b):=by
 unfold xX Mi Ws;rw[mn h.size h.num,À]
 by_cases a:ë b=0
 ·rw[Ñ (by simp[ine,a]),IT h.size,À,if_neg (show ¬(ë b≠0) from fun h=>h a)]
 ·rw[Û (by simp[ine,a]),if_pos a]
def vM (b:ã):Sys×NO (Int×Int)×Int:=if ë b≠0 then((0,[]),[],ë b) else((((Ø b).length:Int)+1,fK b),BK b,0)
def Wd {b:ã} (h:In b):sN b=some (vM b):=by
 unfold sN HC vM;rw[mn h.size h.num,À]
 by_cases a:ë b=0
 ·rw[Ñ (by simp[ine,a]),I0 ((Ĵ b).1 a),À,if_neg (show ¬(ë b≠0) from fun h=>h a)]
 ·rw[Û (by simp[ine,a]),if_pos a]
def cmp0:Cmp:=(0,0,[],[],0,0,0,0)
def jl (b:ã) (i:Int):Cmp×Int:=if ë b≠0 then(cmp0,ë b) else if i<0\/(b.2.2.2.2.1.length:Int)<=i then(cmp0,1) else(b.2.2.2.2.1[i.toNat]?.getD cmp0,0)
def O9 {b:ã} (h:In b) (i:Int):rB b i=some (jl b i):=by
 unfold rB L7 jl;rw[mn h.size h.num,À]
 by_cases a:ë b=0
 ·rw[Ñ (by simp[ine,a]),if_neg (show ¬(ë b≠0) from fun h=>h a),á]
  by_cases d:i<0
  ·rw[Û (by simp[ilt,d]),if_pos (.inl d)]; rfl
  ·rw[Ñ (by simp[ilt]; omega)]
   by_cases h2:(b.2.2.2.2.1.length:Int)<=i
   ·rw[Û (by simp[ige,h2]),if_pos (.inr h2)]; rfl
   ·rw[Ñ (by simp[ige]; omega),if_neg (by omega)];obtain⟨j,rfl⟩:=dy (show 0<=i by omega)
    have c:j<b.2.2.2.2.1.length:=by omega
    rw[Æ (bG c),bU,bG c];rfl
 ·rw[Û (by simp[ine,a]),if_pos a]; rfl
def Ch {b:ã} {i:Int} (h:(jl b i).2=0):ť b/\(jl b i).1∈b.2.2.2.2.1/\b.2.2.2.2.1[i.toNat]?=some (jl b i).1/\0<=i:=by
 unfold jl at h ⊢
 split at h
 ·rename_i a; exact(a h).elim
 ·rename_i a
  have c:ë b=0:=by simpa using a
  split at h
  ·simp at h
  ·rename_i hi
   have d:i.toNat<b.2.2.2.2.1.length:=by omega
   rw[if_neg a,if_neg hi,bG d];exact⟨(Ĵ b).1 c,List.getElem_mem d,rfl,by omega⟩
def O4 (b:ã) (i:Int):((Int×Int)×(Int×Int))×Int:=if (jl b i).2≠0 then(((0,0),(0,0)),(jl b i).2) else(ĝ b (jl b i).1,0)
def Wx {b:ã} (h:In b) (i:Int):sO b i=some (O4 b i):=by
 unfold sO HD O4;rw[O9 h,À]
 by_cases a:(jl b i).2=0
 ·obtain⟨g,c,_,_⟩:=Ch a;rw[Ñ (by simp[ine,a]),g.growth c,À,if_neg (show ¬((jl b i).2≠0) from fun h=>h a)]
 ·rw[Û (by simp[ine,a]),if_pos a]
def Z2 (b:ã) (i:Int):(Int×Int)×Int:=if (jl b i).2≠0 then((0,0),(jl b i).2) else(vT b (jl b i).1,0)
def Z1 {b:ã} (h:In b) (i:Int):B5 b i=some (Z2 b i):=by
 unfold B5 Qc Z2;rw[O9 h,À]
 by_cases a:(jl b i).2=0
 ·obtain⟨g,c,_,_⟩:=Ch a;rw[Ñ (by simp[ine,a]),g.says c,À,if_neg (show ¬((jl b i).2≠0) from fun h=>h a)]
 ·rw[Û (by simp[ine,a]),if_pos a]
def AC (b:ã) (g:Int) (a:NO Int):Int:=if ë b≠0 then ë b else if a.any (fun d=>!yd d) then 1 else if (vh (k:=tI) (v:=Ô) g (Ġ b)).isNone then 5 else 0
def V7 {b:ã} (h:In b) (g:Int) {a:NO Int} (hd:a.length<=1000):xW b g a=some (AC b g a):=by
 unfold xW Mg AC;rw[mn h.size h.num,À]
 by_cases c:ë b=0
 ·rw[Ñ (by simp[ine,c]),if_neg (show ¬(ë b≠0) from fun h=>h c)]
  have last:(Â (Ą b) fun m=>Nx (k:=tI) (v:=Ô) g m (fun l=>some (0:Int)) (some (5:Int)))=some (if (vh (k:=tI) (v:=Ô) g (Ġ b)).isNone then 5 else 0):=by
   rw[mM h.size.gauges,À];unfold Nx
   cases vh (k:=tI) (v:=Ô) g (Ġ b)<;>rfl
  refine cB (Ę a (fun d=>!yd d) (fun f=>ifb (ige f (0:Int)) (some (1:Int)) (Â (Ą b) fun n=>Nx (k:=tI) (v:=Ô) g n (fun r=>some (0:Int)) (some (5:Int)))) (some 1) (some (if (vh (k:=tI) (v:=Ô) g (Ġ b)).isNone then 5 else 0)) (fun j=>?_) (fun i d hi e o=>?_) (fun o=>?_)) ?_
  ·rw[Û (by simp[ige])]
  ·try dsimp only
   unfold l5;rw[Ð hi,Æ e,xC,À,È hi (by omega),û]
  ·try dsimp only
   unfold l5;rw[Ý,last]
  ·cases a.any (fun d=>!yd d)<;>rfl
 ·rw[Û (by simp[ine,c]),if_pos c]
def OU {b:ã} {g:Int} {j:NO Int} (h:AC b g j=0):ť b/\(∀d∈j,0<=d/\d<=20000)/\∃x,ķ b g=some x/\vh (k:=tI) (v:=Ô) g (Ġ b)=some x:=by
 unfold AC at h
 split at h
 ·rename_i f; exact(f h).elim
 ·rename_i f
  have e:ë b=0:=by simpa using f
  have i:=(Ĵ b).1 e
  split at h
  ·omega
  ·rename_i hd
   split at h
   ·omega
   ·rename_i a;refine⟨i,fun d c=>?_,?_⟩
    ·have:=dz.1 (dA.2 hd) d c;simpa[yd,inP] using this
    ·rw[m8 i.ids] at a ⊢
     cases l:ķ b g with
     |none=>rw[l] at a; simp at a
     |some x=>exact⟨x,rfl,rfl⟩
def aaa (b:ã) (g f t:Int):Int×Int :=
 if AC b g [f,t]≠0 then(0,AC b g [f,t]) else
 match vh (k:=tI) (v:=Ô) g (Ġ b) with
 |some x=>if t<f then(0,3) else if f<x.2.1 then(0,3) else(la b x f t,0)
 |none=>(0,0)
def Z9 {b:ã} (h:In b) (g f t:Int):B6 b g f t=some (aaa b g f t):=by
 unfold B6 Qd aaa;rw[V7 h g (by simp),À]
 by_cases ha:AC b g [f,t]=0
 ·obtain⟨c,hd,x,d,i⟩:=OU ha;have l:=hd f (by simp);have j:=hd t (by simp);have e:=c.gaugeR (i7 d).1;rw[Ñ (by simp[ine,ha]),if_neg (show ¬(AC b g [f,t]≠0) from fun h=>h ha),mM h.size.gauges,À];simp only[Nx,i];rw[û]
  by_cases a:t<f
  ·rw[if_pos (by simpa[igt] using a),if_pos a]
  ·rw[if_neg (by simpa[igt] using a),if_neg a,û]
   by_cases h2:f<x.2.1
   ·rw[if_pos (by simpa[ilt] using h2),if_pos h2]
   ·rw[if_neg (by simpa[ilt] using h2),if_neg h2,Us c e.2.2.2.2.2.2.2 ⟨by omega,by omega⟩ ⟨by omega,by omega⟩,À]
 ·rw[Û (by simp[ine,ha]),if_pos ha]
def CanP (b:ã) (a:Int) (x y:NO Int):Bool×Int :=
 if ë b≠0 then(false,ë b) else if !yd a then(false,1) else if !kZ x then(false,1) else if !kZ y then(false,1) else
 if (x++y).any (fun id=>(χ b id a).isSome||ο (Ġ b) id a != 0) then(false,0) else
 (decide ((â x y).length<=1)&&(decide ((â y x).length<=1)&&decide (0<(â x y).length+(â y x).length)),0)
def Can_ok {b:ã} (h:In b) (c:Int) {x y:NO Int} (s:x.length<=100000) (r:y.length<=100000):JG b c x y=some (CanP b c x y):=by
 unfold JG Uq CanP;rw[mn h.size h.num,À]
 by_cases d:ë b=0
 ·rw[Ñ (by simp[ine,d]),if_neg (show ¬(ë b≠0) from fun h=>h d),xC,À]
  cases yd c with
  |false=>rfl
  |true =>
  rw[xB (by omega),À]
  cases kZ x with
  |false=>rfl
  |true =>
  rw[xB (by omega),À]
  cases kZ y with
  |false=>rfl
  |true =>
  simp only[cJ,ð,bW,if_false];rw[mM h.size.gauges,À,Nq (by omega) (by omega),À]
  have m:(x++y).length<=200000:=by simp; omega
  have o:=kI x y;have n:=kI y x;refine cB (Ę (x++y) (fun id=>(χ b id c).isSome||ο (Ġ b) id c != 0) (fun _=>some (false,0)) (some (false,0)) (some (decide ((â x y).length<=1)&&(decide ((â y x).length<=1)&&decide (0<(â x y).length+(â y x).length)),0)) (fun _=>rfl) (fun i a hi ha j=>?_) (fun j=>?_)) ?_
  ·try dsimp only
   unfold se;rw[Ð hi,Æ ha,show jW ((b.1.1,b.1.2),b.2.1,b.2.2.1,b.2.2.2.1,b.2.2.2.2.1,b.2.2.2.2.2) a c=jW b a c from rfl,VY h.size.loans,À,I1,À,È hi (by omega)]
   cases χ b a c with
   |some l=>simp
   |none =>
    cases e:(ο (Ġ b) a c != 0) with
    |true =>
     have:ine (ο (Ġ b) a c) 0=true:=e;simp[this]
    |false =>
     have:ine (ο (Ġ b) a c) 0=false:=e;simp[this]
  ·try dsimp only
   unfold se;rw[Ý,mD (by omega) (by omega),À,mD (by omega) (by omega),À,á,á,Õ (by omega) (by omega),û]
   by_cases g:(â x y).length<=1
   ·rw[if_pos (by simp[ile]; omega),û]
    by_cases f:(â y x).length<=1
    ·rw[if_pos (by simp[ile]; omega)];simp[g,f,igt];omega
    ·rw[if_neg (by simp[ile]; omega)];simp[f]
   ·rw[if_neg (by simp[ile]; omega)];simp[g]
  ·cases List.any (x++y) (fun id=>(χ b id c).isSome||ο (Ġ b) id c != 0)<;>rfl
 ·rw[Û (by simp[ine,d]),if_pos d]
def exB:ã:=((0,2),[(1,0,1000,(-5,5),(1,10),1),(2,0,1000,(-50,50),(1,4),0)],[(1,10)],[(1,(20,29),3)],[(7,10,[1],[2],-20,1,100,200)],[])
def pB:In exB:=⟨⟨by decide,by decide,by decide,by decide,by decide,by decide⟩,by
 intro g a;simp[exB] at a
 rcases a with rfl|rfl<;>exact⟨by decide,by decide⟩⟩
def exC:Cmp:=(8,10,[1],[2],0,0,0,0)
def x1:O4 exB 0=(((-30,1),(-15,1)),0):=by decide +kernel
def x2:Z2 exB 0=((-6,11),0):=by decide +kernel
def x3:Ws exB=([(1,0),(1,10),(2,0),(2,10)],0):=by decide +kernel
def x4:(vM exB).1.1=5/\(vM exB).1.2.length=10/\(vM exB).2.1.length=10/\(vM exB).2.1[9]?=some (3,0)/\(vM exB).2.2=0:=by decide +kernel
def x5:aaa exB 1 0 25=(16,0):=by decide +kernel
def x6:Ys exB [1000,1000,990,990]=(true,0):=by decide +kernel
def x7:Ys exB [1000,999,990,990]=(false,0):=by decide +kernel
def x8:Ce exB exC=((-6,11),0):=by decide +kernel
def x9:CanP exB 25 [1] [2]=(false,0):=by decide +kernel
def Tv:Ğ=some true:=by
 unfold Ğ vm rr zZ;obtain⟨f,e,a3,d,a⟩:=x4;rw[À];rw[show((((0:Int),(2:Int)),[((1:Int),(0:Int),(1000:Int),((-5:Int),(5:Int)),((1:Int),(10:Int)),(1:Int)),((2:Int),(0:Int),(1000:Int),((-50:Int),(50:Int)),((1:Int),(4:Int)),(0:Int))],[((1:Int),(10:Int))],[((1:Int),((20:Int),(29:Int)),(3:Int))],[((7:Int),(10:Int),[(1:Int)],[(2:Int)],(-20:Int),(1:Int),(100:Int),(200:Int))],([]:NO (Int×Int))):ã)=exB from rfl]
 rw[Wx pB,À,Z1 pB,À,Yq pB,À,Wd pB,À,Z9 pB,À,Wy pB.size pB.num,À,Wy pB.size pB.num,À,
  show kS exB ((8:Int),(10:Int),[(1:Int)],[(2:Int)],(0:Int),(0:Int),(0:Int),(0:Int))=some (Ce exB exC) from SZ pB.size pB.num (c:=exC) (by decide) (by decide),À,Can_ok pB _ (by decide) (by decide),À,x1,x2,x3,x5,x6,x7,x8,x9]
 rw[f,a,á,á,á,e,a3];rw[show((9:Int))=((9:Nat):Int) from rfl,Æ d];rfl
def idxP (b:ã) (x d:Int):Int:=match f0 (Ø b) x d with|some j=>(j:Int)+1|none=>0
def AF (b:ã) (id a:Int):Bool:=b.2.2.1.any fun u=>u.1==id&&u.2==a
def OA (b:ã) (g:æ) (d:Int):Int:=match χ b g.1 d with|some l=>l.2.2|none=>if AF b g.1 d then g.2.2.2.2.2 else 0
def UB (l:AD) (id:Int) {f t:Int} (m:f<=t):(if l.1=id/\0<ú l f (t+1) then ú l f (t+1)*l.2.2 else 0)=(if l.1=id/\0<ú l f t then ú l f t*l.2.2 else 0)+(if l.1=id/\l.2.1.1<=t/\t<=l.2.1.2 then l.2.2 else 0):=by
 by_cases a:l.1=id
 ·by_cases d:l.2.1.1<=t/\t<=l.2.1.2
  ·have e:ú l f (t+1)=ú l f t+1:=by unfold ú; omega
   have p:0<=ú l f t:=by unfold ú; omega
   rw[e,if_pos ⟨a,by omega⟩,if_pos (show l.1=id/\l.2.1.1<=t/\t<=l.2.1.2 from⟨a,d⟩),eV,fu]
   by_cases c:0<ú l f t
   ·rw[if_pos ⟨a,c⟩]
   ·rw[if_neg (fun h=>c h.2)]
    have:ú l f t=0:=by omega
    rw[this];omega
  ·rw[if_neg (show ¬(l.1=id/\l.2.1.1<=t/\t<=l.2.1.2) from fun h=>d h.2),Int.add_zero]
   by_cases j:l.2.1.1<=t
   ·have e:ú l f (t+1)=ú l f t:=by unfold ú; omega
    rw[e]
   ·have i:¬0<ú l f (t+1):=by unfold ú; omega
    have g:¬0<ú l f t:=by unfold ú; omega
    rw[if_neg (fun h=>i h.2),if_neg (fun h=>g h.2)]
 ·rw[if_neg (fun h=>a h.1),if_neg (fun h=>a h.1),if_neg (fun h=>a h.1)];rfl
def HE (id:Int) {f t:Int} (g:f<=t):∀{x:NO AD},x.Pairwise (fun a c=>¬(a.1=c.1/\a.2.1.1<=c.2.1.2/\c.2.1.1<=a.2.1.2)) ->
 ċ id f (t+1) x=ċ id f t x+(match x.find? (fun l=>l.1==id&&inP t l.2.1.1 l.2.1.2) with|some l=>l.2.2|none=>0)
 |[],_=>rfl
 |l::r,j=>by
  rw[cf] at j;have m:=HE id g j.2;simp only[ċ];rw[m,UB l id g,eZ]
  by_cases d:l.1=id/\l.2.1.1<=t/\t<=l.2.1.2
  ·have e:(l.1==id&&inP t l.2.1.1 l.2.1.2)=true:=by simp[inP,d.1,d.2.1,d.2.2]
   have n:r.find? (fun l=>l.1==id&&inP t l.2.1.1 l.2.1.2)=none:=by
    rw[cR];intro c o i;simp only[inP,bH,beq_iff_eq,decide_eq_true_eq] at i;exact j.1 c o ⟨by rw[d.1,i.1],by omega,by omega⟩
   rw[if_pos d,e,n];simp only;omega
  ·have e:(l.1==id&&inP t l.2.1.1 l.2.1.2)=false:=by
    rw[dA];intro h;simp only[inP,bH,beq_iff_eq,decide_eq_true_eq] at h;exact d h
   rw[if_neg d,e];simp only;omega
section
variable {b:ã}
def ť.apart (h:ť b):b.2.2.2.1.Pairwise (fun a c=>¬(a.1=c.1/\a.2.1.1<=c.2.1.2/\c.2.1.1<=a.2.1.2)):=by
 rw[List.pairwise_iff_getElem];intro i j hi f g ⟨m,h2,l⟩;have e:=h.loans j _ (List.getElem?_eq_getElem f);unfold Eg at e
 have d:(b.2.2.2.1.take j).any (fun x=>x.1==b.2.2.2.1[j].1&&(decide (x.2.1.1<=b.2.2.2.1[j].2.1.2)&&decide (b.2.2.2.1[j].2.1.1<=x.2.1.2)))=true:=by
  rw[dI];exact⟨b.2.2.2.1[i],bZ.2 ⟨i,by rw[bY]; omega,by rw[fq]⟩,by simp[m,h2,l]⟩
 rw[d] at e
 (repeat' split at e)<;>first|omega|simp_all
def ť.notUsed (h:ť b) {id d:Int} {l:AD} (i:χ b id d=some l):AF b id d=false:=by
 have m:=List.mem_of_find?_eq_some i;have g:=fc i;simp only[inP,bH,beq_iff_eq,decide_eq_true_eq] at g;obtain⟨j,n,rfl⟩:=bZ.1 m;have e:=h.loans j _ (bG n);rw[dA];intro f;obtain⟨u,f,a⟩:=dI.1 f;simp only[bH,beq_iff_eq] at a
 have c:b.2.2.1.any (fun u=>u.1==b.2.2.2.1[j].1&&inP u.2 b.2.2.2.1[j].2.1.1 b.2.2.2.1[j].2.1.2)=true:=by
  rw[dI];exact⟨u,f,by simp only[inP,bH,beq_iff_eq,decide_eq_true_eq]; exact⟨by rw[a.1,g.1],by omega,by omega⟩⟩
 unfold Eg at e;rw[c] at e
 (repeat' split at e)<;>first|omega|simp_all
def Kg {id f t:Int} (j:f<=t):Kz (Ű b id f (t+1))=Kz (Ű b id f t)++if AF b id t then[t] else[]:=by
 have i:∀t x,x∈Ű b id f t↔AF b id x=true/\f<=x/\x<t:=by
  intro t x;unfold Ű AF;simp only[List.mem_map,List.mem_filter,List.any_eq_true,inP,Bool.and_eq_true,beq_iff_eq,decide_eq_true_eq];constructor
  ·rintro⟨u,⟨d,h2,e,n⟩,rfl⟩;exact⟨⟨u,d,h2,rfl⟩,e,by omega⟩
  ·rintro⟨⟨u,d,h2,rfl⟩,e,n⟩;exact⟨u,⟨d,h2,e,by omega⟩,rfl⟩
 refine OW (uT _) ?_ fun x=>?_
 ·rw[List.pairwise_append]
  refine⟨uT _,by split<;>simp,fun a ha c m=>?_⟩
  rw[rU,i] at ha
  split at m
  ·rw[bK] at m; omega
  ·cases m
 ·rw[rU,i,bJ,rU,i]
  by_cases g:AF b id t=true
  ·rw[if_pos g,bK];constructor
   ·rintro⟨d,h2,e⟩
    by_cases l:x=t
    ·exact .inr l
    ·exact .inl ⟨d,h2,by omega⟩
   ·rintro(⟨d,h2,e⟩|rfl)
    ·exact⟨d,h2,by omega⟩
    ·exact⟨g,j,by omega⟩
  ·rw[if_neg g];constructor
   ·rintro⟨d,h2,e⟩;refine .inl ⟨d,h2,?_⟩
    by_cases l:x=t
    ·rw[l] at d; exact absurd d g
    ·omega
   ·rintro(⟨d,h2,e⟩|h)
    ·exact⟨d,h2,by omega⟩
    ·cases h
def Ur (h:ť b) (g:æ) {f t:Int} (a:f<=t):la b g f (t+1)=la b g f t+OA b g t:=by
 unfold la OA;rw[HE g.1 a h.apart,Kg a];show ċ g.1 f t b.2.2.2.1+(match χ b g.1 t with|some l=>l.2.2|none=>0)+_=_
 cases ha:χ b g.1 t with
 |some l =>
  rw[h.notUsed ha];simp only[bW,if_false,b6];omega
 |none =>
  simp only
  cases AF b g.1 t with
  |true=>simp only[if_true,bI,cm,Int.natCast_add,eV]; omega
  |false=>simp only[bW,if_false,b6]; omega
def Ee (g:æ) {f t:Int} (c:t<=f):la b g f t=0:=by
 unfold la
 have h:∀x:NO AD,ċ g.1 f t x=0:=by
  intro x
  induction x with
  |nil=>rfl
  |cons l r a =>
   simp only[ċ];rw[a,if_neg (by unfold ú; omega)];rfl
 have h2:Ű b g.1 f t=[]:=by
  unfold Ű
  rw[List.filter_eq_nil_iff.2 fun u i d=>by
   simp only[inP,bH,beq_iff_eq,decide_eq_true_eq] at d
   omega]
  rfl
 rw[h,h2];have e:Kz ([]:NO Int)=[]:=rfl;rw[e];simp
end
def Kw (b:ã):Bool :=
 !((b.2.2.2.2.1.take 60).any fun c=>decide (9<c.2.2.1.length)||decide (9<c.2.2.2.1.length))&&(decide (b.2.1.length<=14)&&(decide (b.2.2.1.length<=42)&&(decide (b.2.2.2.1.length<=14)&&(decide (b.2.2.2.2.1.length<=42)&&decide (b.2.2.2.2.2.length<=12)))))
def WV (b:ã):sn b=some (Kw b):=by
 unfold sn G9
 have last:(ifb (ile (ß b.2.1) (14:Int)) (ifb (ile (ß b.2.2.1) (42:Int)) (ifb (ile (ß b.2.2.2.1) (14:Int)) (ifb (ile (ß b.2.2.2.2.1) (42:Int)) (some (ile (ß b.2.2.2.2.2) (12:Int))) (some false)) (some false)) (some false)) (some false)) =
  some (decide (b.2.1.length<=14)&&(decide (b.2.2.1.length<=42)&&(decide (b.2.2.2.1.length<=14)&&(decide (b.2.2.2.2.1.length<=42)&&decide (b.2.2.2.2.2.length<=12))))):=by
  have e:∀(n m:Nat),ile (n:Int) (m:Int)=decide (n<=m):=fun n m=>by simp[ile]
  rw[á,á,á,á,á,show(14:Int)=((14:Nat):Int) from rfl,show(42:Int)=((42:Nat):Int) from rfl,show(12:Int)=((12:Nat):Int) from rfl,e,e,e,e,e];generalize decide (b.2.1.length<=14)=x1;generalize decide (b.2.2.1.length<=42)=x2;generalize decide (b.2.2.2.1.length<=14)=x3;generalize decide (b.2.2.2.2.1.length<=42)=x4
  cases x1<;>cases x2<;>cases x3<;>cases x4<;>rfl
 refine cB (Ę (b.2.2.2.2.1.take 60) (fun c=>decide (9<c.2.2.1.length)||decide (9<c.2.2.2.1.length)) (fun _=>some false) (some false) (some (decide (b.2.1.length<=14)&&(decide (b.2.2.1.length<=42)&&(decide (b.2.2.2.1.length<=14)&&(decide (b.2.2.2.2.1.length<=42)&&decide (b.2.2.2.2.2.length<=12)))))) (fun _=>rfl) (fun i c hi d g=>?_) (fun g=>?_)) ?_
 ·try dsimp only
  unfold jy;rw[List.length_take] at hi
  have a:b.2.2.2.2.1[i]?=some c:=by rw[cI] at d; split at d<;>simp_all
  rw[Ð (show i<b.2.2.2.2.1.length by omega),Û (by simp[ilt]; omega),Æ a,Æ a,Õ (by omega) (by omega),û,á,á]
  by_cases f:9<c.2.2.1.length
  ·rw[if_pos (by simp[igt]; omega),if_pos (by simp[f])]
  ·rw[if_neg (by simp[igt]; omega),û]
   by_cases h2:9<c.2.2.2.1.length
   ·rw[if_pos (by simp[igt]; omega),if_pos (by simp[h2])]
   ·rw[if_neg (by simp[igt]; omega),if_neg (by simp[f,h2])]
 ·try dsimp only
  unfold jy;rw[last,List.length_take,û]
  split
  ·rename_i h
   have h':60<b.2.2.2.2.1.length:=by rw[á] at h; simp[ilt] at h; omega
   rw[Ñ (by simp[ilt]; omega)]
  ·rfl
 ·unfold Kw
  cases List.any (List.take 60 b.2.2.2.2.1) (fun c=>decide (9<c.2.2.1.length)||decide (9<c.2.2.2.1.length))<;>rfl
def Rf {b:ã} (h:Kw b=true):ŏ b/\b.2.2.2.2.1.length<=42/\∀c∈b.2.2.2.2.1,c.2.2.1.length<=9/\c.2.2.2.1.length<=9:=by
 simp only[Kw,bH,cF,decide_eq_true_eq] at h;obtain⟨h0,i,h2,g,e,f⟩:=h
 have d:∀c∈b.2.2.2.2.1,c.2.2.1.length<=9/\c.2.2.2.1.length<=9:=by
  intro c a;rw[cA (by omega)] at h0;have:=dz.1 h0 c a;simp at this;omega
 exact⟨⟨by omega,by omega,by omega,by omega,by omega,fun c a=>by have:=d c a; omega⟩,e,d⟩
section
variable {b:ã}
def Zj:off b b.2.1.length=(Ø b).length:=by unfold off Ø; rw[List.take_length]
def Xf:∀n,n<=b.2.1.length->∀j,j<off b n->∃(i:Nat) (g:æ) (k:Nat),b.2.1[i]?=some g/\k<(ê b g).length/\j=off b i+k:=by
 intro n
 induction n with
 |zero=>intro _ j a; simp[off] at a
 |succ n d =>
  intro e j a;have c:b.2.1[n]?=some b.2.1[n]:=bG (by omega);rw[Xe c] at a
  by_cases h:j<off b n
  ·exact d (by omega) j h
  ·exact⟨n,_,j-off b n,c,by omega,by omega⟩
end
def SU {b:ã}:∀i,i<=b.2.2.2.2.1.length->((b.2.2.2.2.1.take i).flatMap (ĭ b)).length=2*i/\(((b.2.2.2.2.1.take i).mapIdx fun i _=>[((3:Int),(i:Int)),((3:Int),(i:Int))]).flatten).length=2*i:=by
 intro i
 induction i with
 |zero=>intro _; simp
 |succ i a =>
  intro hi;have a:=a (by omega);have c:b.2.2.2.2.1[i]?=some b.2.2.2.2.1[i]:=bG hi;rw[ź _ c,take_succ c,dE,eW,bI,bI];simp only[cj,eO,b6,fk,fw,ĭ,bO,bV];omega
end Go.Proofs.ZzM
end
